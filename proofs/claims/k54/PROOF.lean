import PyProof.Rows.All
import Wide.All
import OpenK.AllK
import Wide.FinOn
import HandS.ForMost
import HandS.TupAny
import HandS.Deep
import KE.DatumOrd
import KE.DatumIndex
import KE.SortData
import KE.KRevSl
import KE.GoesEnum
import KE.KIndexOf
import HandS.Style
import HandS.Small
import PyProof.Rows.NestShow
import HandS.More
import HandS.HeadEnd
import PySem.Challenge.RW_loopsonplates_k54_slides_by_own_going
set_option Elab.async false
set_option linter.all false
set_option maxRecDepth 100000
set_option maxHeartbeats 1000000
/-! The data layer: a def's body as a function on slots of plain data. -/
namespace DL
open PySem PySem.Spec PyProof.Rows L2

/-! ### data -/
inductive T where
  | non | bl (b : Bool) | int (i : Int) | str (x : Str) | src
  | tup (ts : List T) | lst (ts : List T) | dct (ks : List Key) (ts : List T) | obj (C : Addr) (ns : List Str) (ts : List T)

/-- data whose objects never change -/
def T.flat : T → Bool
  | .lst _ => false
  | .dct _ _ => false
  | .obj _ _ _ => false
  | _ => true

/-- what is known of the caller's things by kind: own: its objects are new and nobody else's; shr: nobody's who changes; vw: perhaps one's own -/
inductive Kd where
  | own | shr | vw
  deriving DecidableEq

structure Cell where
  k : Kd
  t : T

/-- the tuple at a, an object without a dict of its own -/
def SqF (H : Hp) (a : Addr) (xs : List V) : Prop := ∃ o : Obj, H a = some (.frz o (.tup xs)) ∧ o.dict = none
theorem SqF.t {K : PySem.W.Frag} {H : Hp} {a : Addr} {xs : List V} (h : SqF H a xs) : SqT K H a xs := let ⟨o, h, _⟩ := h; .inl (.inr ⟨o, h⟩)
theorem SqF.of {H : Hp} {a : Addr} {xs : List V} {o : Obj} (h : o.dict = none) : SqF (upd H a (.frz o (.tup xs))) a xs := ⟨o, upd_same, h⟩
mutual
/-- v shows t at H; the list: the addresses of what can change -/
inductive Vw (K : PySem.W.Frag) (p : Addr) (H : Hp) : V → T → List Addr → Prop
  | non : Vw K p H .non .non []
  | bl (b : Bool) : Vw K p H (.bl b) (.bl b) []
  | int (i : Int) : Vw K p H (.int i) (.int i) []
  | str (x : Str) : Vw K p H (.str x) (.str x) []
  | src : Vw K p H (.ref p) .src []
  | tup {a : Addr} {xs : List V} {ts : List T} : SqF H a xs → VwL K p H xs ts [] → Vw K p H (.ref a) (.tup ts) []
  | lst {a : Addr} {xs : List V} {ts : List T} {A : List Addr} : H a = some (.lst xs) → VwL K p H xs ts A → Vw K p H (.ref a) (.lst ts) (a :: A)
  | dct {a : Addr} {kvs : List (Key × V)} {ts : List T} {A : List Addr} : H a = some (.dK kvs) → (kvs.map (·.1)).Nodup → VwL K p H (kvs.map (·.2)) ts A → Vw K p H (.ref a) (.dct (kvs.map (·.1)) ts) (a :: A)
  | obj {a C dx : Addr} {fs : List (Str × V)} {ts : List T} {A : List Addr} : H a = some (.ins C dx fs) → VwL K p H (fs.map (·.2)) ts A → Vw K p H (.ref a) (.obj C (fs.map (·.1)) ts) (a :: A)
inductive VwL (K : PySem.W.Frag) (p : Addr) (H : Hp) : List V → List T → List Addr → Prop
  | nil : VwL K p H [] [] []
  | cons {v : V} {vs : List V} {t : T} {ts : List T} {A B : List Addr} : Vw K p H v t A → VwL K p H vs ts B → VwL K p H (v :: vs) (t :: ts) (A ++ B)
end

/-- the kinds of things that can change in H -/
def MutK : Option HO → Prop
  | some (.lst _) => True
  | some (.dK _) => True
  | some (.ins _ _ _) => True
  | _ => False

/-- from H to H' at most the objects at F have changed; new ones stand where nothing stood -/
def Mv (F : List Addr) (H H' : Hp) : Prop := ∀ b o, H b = some o → b ∉ F → H' b = some o
theorem Mv.refl (F : List Addr) (H : Hp) : Mv F H H := fun _ _ e _ => e
theorem Mv.mono {F G : List Addr} {H H' : Hp} (m : Mv F H H') (s : ∀ a ∈ F, a ∈ G) : Mv G H H' := fun b o e h => m b o e fun z => h (s b z)
theorem Mv.new {F : List Addr} {H : Hp} {p : Addr} {o : HO} (h : H p = none) : Mv F H (upd H p o) := fun b u e _ => by
  rw [upd_ne (ne_of_none e h)]
  exact e
theorem Mv.same {H H' : Hp} (m : Mv [] H H') : Same H H' := fun b o e => m b o e (by simp)
theorem Mv.of_same {H H' : Hp} (m : Same H H') : Mv [] H H' := fun b o e _ => m b o e
theorem Mv.none_of {F : List Addr} {H H' : Hp} (m : Mv F H H') {a : Addr} (h : H' a = none) : H a = none ∨ a ∈ F := by
  cases e : H a with
  | none => exact .inl rfl
  | some o =>
    by_cases hF : a ∈ F
    · exact .inr hF
    · rw [m a o e hF] at h
      cases h
theorem Mv.trans {F F1 : List Addr} {H H1 H2 : Hp} (a : Mv F H H1) (s : ∀ x ∈ F1, x ∈ F ∨ H x = none) (b : Mv F1 H1 H2) : Mv F H H2 := fun c o e h => by
  refine b c o (a c o e h) fun z => ?_
  rcases s c z with z | z
  · exact h z
  · rw [e] at z
    cases z
theorem Mv.trans0 {F : List Addr} {H H1 H2 : Hp} (a : Mv F H H1) (b : Mv F H1 H2) : Mv F H H2 := a.trans (fun _ h => .inl h) b

section
variable {K : PySem.W.Frag} {p : Addr} {H H' : Hp}
theorem SqT.stay {a : Addr} {xs : List V} (h : SqT K H a xs) (k : ∀ b o, H b = some o → ¬ MutK (some o) → H' b = some o) : SqT K H' a xs := by
  rcases h with (h | ⟨o, h⟩) | h
  · exact .inl (.inl (k _ _ h (fun z => z)))
  · exact .inl (.inr ⟨o, k _ _ h (fun z => z)⟩)
  · exact .inr h
theorem SqF.stay {a : Addr} {xs : List V} (h : SqF H a xs) (k : ∀ b o, H b = some o → ¬ MutK (some o) → H' b = some o) : SqF H' a xs := let ⟨o, e, d⟩ := h; ⟨o, k _ _ e (fun z => z), d⟩
mutual
theorem Vw.stay {v : V} {t : T} {A : List Addr} : Vw K p H v t A → (∀ b o, H b = some o → ¬ MutK (some o) → H' b = some o) → (∀ a o, a ∈ A → H a = some o → H' a = some o) → Vw K p H' v t A
  | .non, _, _ => .non
  | .bl b, _, _ => .bl b
  | .int i, _, _ => .int i
  | .str x, _, _ => .str x
  | .src, _, _ => .src
  | .tup h r, k, _ => .tup (SqF.stay h k) (VwL.stay r k fun a _ m _ => absurd m (by simp))
  | .lst h r, k, m => .lst (m _ _ List.mem_cons_self h) (VwL.stay r k fun a o z => m a o (List.mem_cons_of_mem _ z))
  | .dct h n r, k, m => .dct (m _ _ List.mem_cons_self h) n (VwL.stay r k fun a o z => m a o (List.mem_cons_of_mem _ z))
  | .obj h r, k, m => .obj (m _ _ List.mem_cons_self h) (VwL.stay r k fun a o z => m a o (List.mem_cons_of_mem _ z))
theorem VwL.stay {vs : List V} {ts : List T} {A : List Addr} : VwL K p H vs ts A → (∀ b o, H b = some o → ¬ MutK (some o) → H' b = some o) → (∀ a o, a ∈ A → H a = some o → H' a = some o) → VwL K p H' vs ts A
  | .nil, _, _ => .nil
  | .cons h r, k, m => .cons (Vw.stay h k fun a o z => m a o (List.mem_append_left _ z)) (VwL.stay r k fun a o z => m a o (List.mem_append_right _ z))
end
mutual
/-- what can change stands in H, as such -/
theorem Vw.mut {v : V} {t : T} {A : List Addr} : Vw K p H v t A → ∀ a ∈ A, MutK (H a)
  | .non, a, m => absurd m (by simp)
  | .bl b, a, m => absurd m (by simp)
  | .int i, a, m => absurd m (by simp)
  | .str x, a, m => absurd m (by simp)
  | .src, a, m => absurd m (by simp)
  | .tup _ _, a, m => absurd m (by simp)
  | .lst h r, a, m => by
    rcases List.mem_cons.mp m with e | m
    · rw [e, h]; trivial
    · exact VwL.mut r a m
  | .dct h _ r, a, m => by
    rcases List.mem_cons.mp m with e | m
    · rw [e, h]; trivial
    · exact VwL.mut r a m
  | .obj h r, a, m => by
    rcases List.mem_cons.mp m with e | m
    · rw [e, h]; trivial
    · exact VwL.mut r a m
theorem VwL.mut {vs : List V} {ts : List T} {A : List Addr} : VwL K p H vs ts A → ∀ a ∈ A, MutK (H a)
  | .nil, a, m => absurd m (by simp)
  | .cons h r, a, m => by
    rcases List.mem_append.mp m with m | m
    · exact Vw.mut h a m
    · exact VwL.mut r a m
end
theorem Vw.there {v : V} {t : T} {A : List Addr} (h : Vw K p H v t A) {a : Addr} (m : a ∈ A) : ∃ o, H a = some o := by
  have q := h.mut a m
  cases e : H a with
  | none => rw [e] at q; exact q.elim
  | some o => exact ⟨o, rfl⟩
theorem VwL.there {v : List V} {t : List T} {A : List Addr} (h : VwL K p H v t A) {a : Addr} (m : a ∈ A) : ∃ o, H a = some o := by
  have q := h.mut a m
  cases e : H a with
  | none => rw [e] at q; exact q.elim
  | some o => exact ⟨o, rfl⟩
theorem mut_keep {F : List Addr} (m : Mv F H H') (hF : ∀ a ∈ F, MutK (H a)) : ∀ b o, H b = some o → ¬ MutK (some o) → H' b = some o := fun b o e n => m b o e fun z => n (by
  have q := hF b z
  rw [e] at q
  exact q)
/-- seen behind a move that leaves its objects alone -/
theorem Vw.move {v : V} {t : T} {A F : List Addr} (h : Vw K p H v t A) (m : Mv F H H') (hF : ∀ a ∈ F, MutK (H a)) (d : ∀ a ∈ A, a ∉ F) : Vw K p H' v t A :=
  h.stay (mut_keep m hF) fun a o z e => m a o e (d a z)
theorem VwL.move {v : List V} {t : List T} {A F : List Addr} (h : VwL K p H v t A) (m : Mv F H H') (hF : ∀ a ∈ F, MutK (H a)) (d : ∀ a ∈ A, a ∉ F) : VwL K p H' v t A :=
  h.stay (mut_keep m hF) fun a o z e => m a o e (d a z)
theorem Vw.same {v : V} {t : T} {A : List Addr} (h : Vw K p H v t A) (m : Same H H') : Vw K p H' v t A :=
  h.stay (fun b o e _ => m b o e) fun a o _ e => m a o e
theorem VwL.same {v : List V} {t : List T} {A : List Addr} (h : VwL K p H v t A) (m : Same H H') : VwL K p H' v t A :=
  h.stay (fun b o e _ => m b o e) fun a o _ e => m a o e
theorem Vw.flat {v : V} {t : T} {A : List Addr} (h : Vw K p H v t A) (f : t.flat = true) : A = [] := by
  cases h <;> first | rfl | cases f
theorem VwL.length {vs : List V} {ts : List T} {A : List Addr} : VwL K p H vs ts A → vs.length = ts.length
  | .nil => rfl
  | .cons _ r => by rw [List.length_cons, List.length_cons, VwL.length r]
theorem VwL.get {vs : List V} {ts : List T} {A : List Addr} : VwL K p H vs ts A → ∀ {i : Nat} {t : T}, ts[i]? = some t → ∃ v B, vs[i]? = some v ∧ Vw K p H v t B ∧ ∀ a ∈ B, a ∈ A
  | .nil, i, t, e => by simp at e
  | .cons h r, 0, t, e => by
    have e1 := Option.some.inj e
    subst e1
    exact ⟨_, _, rfl, h, fun a m => List.mem_append_left _ m⟩
  | .cons h r, i + 1, t, e => by
    obtain ⟨v, B, h1, h2, h3⟩ := VwL.get r (i := i) (t := t) (by simpa using e)
    exact ⟨v, B, by simpa using h1, h2, fun a m => List.mem_append_right _ (h3 a m)⟩
theorem VwL.app {vs ws : List V} {ts us : List T} {A B : List Addr} : VwL K p H vs ts A → VwL K p H ws us B → VwL K p H (vs ++ ws) (ts ++ us) (A ++ B)
  | .nil, s => s
  | .cons h r, s => by
    rw [List.append_assoc]
    exact .cons h (VwL.app r s)
end

/-! ### the law's source: its cells, what is left, what is mixed, the turn -/
structure Src where
  cells : List Int
  left : Int
  mixed : Int
  turn : Int
def srcK (l : Addr) (s : Src) : List (Key × V) := [(.inr "cells", .ref l), (.inr "left", .int s.left), (.inr "mixed", .int s.mixed), (.inr "turn", .int s.turn)]
/-- the source at p, if there is one; its objects -/
def SrcR (p : Addr) (H : Hp) : Option Src → List Addr → Prop
  | none, F => F = []
  | some s, F => ∃ l, H p = some (.dK (srcK l s)) ∧ H l = some (.lst (s.cells.map V.int)) ∧ l ≠ p ∧ F = [p, l]
theorem SrcR.mut {p : Addr} {H : Hp} {e : Option Src} {F : List Addr} (h : SrcR p H e F) : ∀ a ∈ F, MutK (H a) := by
  cases e with
  | none =>
    have e1 : F = [] := h
    subst e1
    intro a m; simp at m
  | some s =>
    obtain ⟨l, h1, h2, _, rfl⟩ := h
    intro a m
    rcases List.mem_cons.mp m with e | m
    · rw [e, h1]; trivial
    · have e := List.mem_singleton.mp m
      rw [e, h2]; trivial
theorem Mv.none_src {p : Addr} {H H1 : Hp} {e : Option Src} {F : List Addr} (m : Mv F H H1) (s : SrcR p H1 e F) {a : Addr} (z : H1 a = none) : H a = none := by
  rcases m.none_of z with y | y
  · exact y
  · have mu1 := s.mut a y
    rw [z] at mu1
    exact mu1.elim
theorem SrcR.stay {p : Addr} {H H' : Hp} {e : Option Src} {F : List Addr} (h : SrcR p H e F) (k : ∀ a o, a ∈ F → H a = some o → H' a = some o) : SrcR p H' e F := by
  cases e with
  | none => exact h
  | some s =>
    obtain ⟨l, h1, h2, h3, rfl⟩ := h
    exact ⟨l, k _ _ (by simp) h1, k _ _ (by simp) h2, h3, rfl⟩

/-! ### slots -/
abbrev Slots := List (Option Cell)
/-- the slots hold S, the source is e; A i: the objects of slot i -/
structure SR (K : PySem.W.Frag) (p : Addr) (Fs : List Addr) (Z : Addr → Prop) (H : Hp) (σ : L2.St) (S : Slots) (e : Option Src) (A : Nat → List Addr) : Prop where
  len : σ.length = S.length
  slot : ∀ (i : Nat) (c : Cell), S[i]? = some (some c) → c.k ≠ .vw ∧ ∃ v, σ[i]? = some (some v) ∧ Vw K p H v c.t (A i)
  nd : ∀ (i : Nat) (t : T), S[i]? = some (some ⟨.own, t⟩) → (A i).Nodup
  dj : ∀ (i j : Nat) (t : T) (c : Cell), S[i]? = some (some ⟨.own, t⟩) → S[j]? = some (some c) → i ≠ j → ∀ a ∈ A i, a ∉ A j
  src : SrcR p H e Fs
  ds : ∀ (i : Nat) (c : Cell), S[i]? = some (some c) → ∀ a ∈ A i, a ∉ Fs
  z : ∀ (i : Nat) (c : Cell), S[i]? = some (some c) → ∀ a ∈ A i, Z a
  zn : ∀ a, H a = none → Z a

section
variable {K : PySem.W.Frag} {p : Addr} {Fs : List Addr} {Z : Addr → Prop} {H H' : Hp} {σ : L2.St} {S : Slots} {e e' : Option Src} {A : Nat → List Addr}
theorem SR.mut (h : SR K p Fs Z H σ S e A) {i : Nat} {c : Cell} (hc : S[i]? = some (some c)) : ∀ a ∈ A i, MutK (H a) := by
  obtain ⟨_, v, _, q⟩ := h.slot i c hc
  exact q.mut
/-- the source has turned, nothing else has changed -/
theorem SR.move (h : SR K p Fs Z H σ S e A) (m : Mv Fs H H') (hs : SrcR p H' e' Fs) : SR K p Fs Z H' σ S e' A := by
  refine ⟨h.len, fun i c hc => ?_, h.nd, h.dj, hs, h.ds, h.z, fun a y => h.zn a (m.none_src hs y)⟩
  obtain ⟨k, v, h1, h2⟩ := h.slot i c hc
  exact ⟨k, v, h1, h2.move m h.src.mut (h.ds i c hc)⟩
theorem SR.same (h : SR K p Fs Z H σ S e A) (m : Same H H') : SR K p Fs Z H' σ S e A := by
  refine ⟨h.len, fun i c hc => ?_, h.nd, h.dj, h.src.stay fun a o _ q => m a o q, h.ds, h.z, fun a y => h.zn a (m.free y)⟩
  obtain ⟨k, v, h1, h2⟩ := h.slot i c hc
  exact ⟨k, v, h1, h2.same m⟩
end

/-! ### expressions -/
abbrev Ex := Slots → Option Src → Option (Cell × Option Src)
/-- an object of some slot -/
def InS (S : Slots) (A : Nat → List Addr) (a : Addr) : Prop := ∃ (i : Nat) (c : Cell), S[i]? = some (some c) ∧ a ∈ A i
/-- what is known behind an expression -/
structure EQ (K : PySem.W.Frag) (p : Addr) (Fs : List Addr) (Z : Addr → Prop) (H : Hp) (S : Slots) (A : Nat → List Addr) (c : Cell) (e' : Option Src) (v : V) (H' : Hp) (B : List Addr) : Prop where
  vw : Vw K p H' v c.t B
  src : SrcR p H' e' Fs
  mv : Mv Fs H H'
  df : ∀ a ∈ B, a ∉ Fs
  own : c.k = .own → B.Nodup ∧ ∀ a ∈ B, H a = none
  shr : c.k = .shr → ∀ a ∈ B, ∀ (i : Nat) (t : T), S[i]? = some (some ⟨.own, t⟩) → a ∉ A i
  sub : ∀ a ∈ B, Z a
def Rd (K : PySem.W.Frag) (t : TE) (f : Ex) : Prop :=
  ∀ (p : Addr) (Fs : List Addr) (Z : Addr → Prop) (H : Hp) (σ : L2.St) (S : Slots) (e : Option Src) (A : Nat → List Addr) (Q : VK) (c : Cell) (e' : Option Src),
    SR K p Fs Z H σ S e A → f S e = some (c, e') → (∀ v H' B, EQ K p Fs Z H S A c e' v H' B → Q v H') → t σ H Q
/-- the expression is worth f -/
structure DX (K : PySem.W.Frag) (X : Cx) (e : Expr) (t : TE) (f : Ex) : Prop where
  pe : PE X e t
  rd : Rd K t f

/-- what is flat is anybody's -/
def nk (k : Kd) (t : T) : Cell := if t.flat then ⟨.shr, t⟩ else ⟨k, t⟩

section
variable {K : PySem.W.Frag} {X : Cx} {pos : Pos}
theorem EQ.of {K : PySem.W.Frag} {p : Addr} {Fs : List Addr} {Z : Addr → Prop} {H H' : Hp} {S : Slots} {A : Nat → List Addr} {k : Kd} {t : T} {e' : Option Src} {v : V} {B : List Addr} (vw : Vw K p H' v t B) (src : SrcR p H' e' Fs) (mv : Mv Fs H H')
    (df : ∀ a ∈ B, a ∉ Fs) (own : k = .own → B.Nodup ∧ ∀ a ∈ B, H a = none) (shr : k = .shr → ∀ a ∈ B, ∀ (i : Nat) (t : T), S[i]? = some (some ⟨.own, t⟩) → a ∉ A i) (sub : ∀ a ∈ B, Z a) : EQ K p Fs Z H S A (nk k t) e' v H' B := by
  unfold nk
  by_cases f : t.flat = true
  · rw [if_pos f]
    have e := vw.flat f
    subst e
    exact ⟨vw, src, mv, df, (fun z => nomatch z), (fun _ a m => absurd m (List.not_mem_nil)), sub⟩
  · rw [if_neg f]
    exact ⟨vw, src, mv, df, own, shr, sub⟩
/-- flat data -/
theorem EQ.flat {K : PySem.W.Frag} {p : Addr} {Fs : List Addr} {Z : Addr → Prop} {H H' : Hp} {S : Slots} {A : Nat → List Addr} {t : T} {e' : Option Src} {v : V} (vw : Vw K p H' v t []) (src : SrcR p H' e' Fs) (mv : Mv Fs H H') : EQ K p Fs Z H S A ⟨.shr, t⟩ e' v H' [] :=
  ⟨vw, src, mv, fun a m => absurd m (List.not_mem_nil), (fun z => nomatch z), (fun _ a m => absurd m (List.not_mem_nil)), fun a m => absurd m (List.not_mem_nil)⟩
/-- the same things behind a second expression -/
theorem EQ.more {K : PySem.W.Frag} {p : Addr} {Fs : List Addr} {Z : Addr → Prop} {H H1 H2 : Hp} {σ : L2.St} {S : Slots} {A : Nat → List Addr} {c : Cell} {e e1 e2 : Option Src} {v : V} {B : List Addr} (h : SR K p Fs Z H σ S e A) (q : EQ K p Fs Z H S A c e1 v H1 B) (m : Mv Fs H1 H2) (s2 : SrcR p H2 e2 Fs) :
    EQ K p Fs Z H S A c e2 v H2 B :=
  ⟨q.vw.move m q.src.mut q.df, s2, q.mv.trans0 m, q.df, q.own, q.shr, q.sub⟩
theorem SR.behind {K : PySem.W.Frag} {p : Addr} {Fs : List Addr} {Z : Addr → Prop} {H H1 : Hp} {σ : L2.St} {S : Slots} {A : Nat → List Addr} {c : Cell} {e e1 : Option Src} {v : V} {B : List Addr} (h : SR K p Fs Z H σ S e A) (q : EQ K p Fs Z H S A c e1 v H1 B) : SR K p Fs Z H1 σ S e1 A := h.move q.mv q.src

/-- a name's slot -/
def xName (i : Nat) : Ex := fun S e => match S[i]? with
  | some (some c) => some (nk (match c.k with | .own => .vw | k => k) c.t, e)
  | _ => none
theorem dx_name (i : Nat) {x : Str} (hN : X.N[i]? = some x := by rfl) (hv : Vis X.env.scope x := by first | exact Or.inl rfl | exact Or.inr (Or.inl rfl) | exact Or.inr (Or.inr rfl)) (hd : (x == ("__debug__" : Str)) = false := by decide)
    (hcd : (x == ("__classdict__" : Str)) = false := by decide) : DX K X (.Name x pos) (tVar i) (xName i) := by
  refine ⟨pe_var hN hv hd hcd, fun p Fs Z H σ S e A Q c e' h hf k => ?_⟩
  unfold xName at hf
  split at hf
  · rename_i c0 hc
    have e1 := Option.some.inj hf
    have e2 : nk (match c0.k with | .own => .vw | k => k) c0.t = c := congrArg Prod.fst e1
    have e3 : e = e' := congrArg Prod.snd e1
    subst e3
    obtain ⟨kv, v, h1, h2⟩ := h.slot i c0 hc
    refine ⟨v, h1, k v H (A i) ?_⟩
    rw [← e2]
    refine EQ.of h2 h.src (Mv.refl _ _) (h.ds i c0 hc) (fun z => ?_) (fun z a m j t hj => ?_) (h.z i c0 hc)
    · cases hk : c0.k <;> rw [hk] at z <;> first | exact absurd z (by decide) | cases z
    · have hs : c0.k = .shr := by
        cases hk : c0.k <;> rw [hk] at z <;> first | rfl | exact absurd z (by decide)
      have ne : j ≠ i := by
        intro q
        rw [q, hc] at hj
        have := Option.some.inj (Option.some.inj hj)
        rw [this] at hs
        cases hs
      intro mj
      exact h.dj j i t c0 hj hc ne a mj m
  · cases hf
def xC (t : T) : Ex := fun _ e => some (⟨.shr, t⟩, e)
theorem rd_C {K : PySem.W.Frag} {v : V} {t : T} (h : ∀ p H, Vw K p H v t []) : Rd K (tC v) (xC t) := fun p Fs Z H σ S e A Q c e' hs hf k => by
  have e1 := Option.some.inj hf
  have e2 : (⟨.shr, t⟩ : Cell) = c := congrArg Prod.fst e1
  have e3 : e = e' := congrArg Prod.snd e1
  subst e2 e3
  exact k v H [] (EQ.flat (h p H) hs.src (Mv.refl _ _))
theorem dx_int {i : Int} {j} : DX K X (.Constant (.int i) j pos) (tC (.int i)) (xC (.int i)) := ⟨pe_int, rd_C fun _ _ => .int i⟩
theorem dx_bl {b : Bool} {j} : DX K X (.Constant (.bool b) j pos) (tC (.bl b)) (xC (.bl b)) := ⟨pe_bl, rd_C fun _ _ => .bl b⟩
theorem dx_non {j} : DX K X (.Constant .none j pos) (tC .non) (xC .non) := ⟨pe_non, rd_C fun _ _ => .non⟩
theorem dx_str {x : Str} {j} : DX K X (.Constant (.str x) j pos) (tC (.str x)) (xC (.str x)) := ⟨pe_str, rd_C fun _ _ => .str x⟩
/-- a constant of the module -/
theorem dx_glob {x : Str} {v : V} {u : Value} {t : T} (hg : Gl X x) (hm : X.mg x = some u) (r : RelV v u) (h : ∀ p H, Vw K p H v t []) (hd : (x == ("__debug__" : Str)) = false := by decide) : DX K X (.Name x pos) (tC v) (xC t) :=
  ⟨pe_glob hg hm r hd, rd_C h⟩
end

/-! ### operators by values: what a rule r of HandS makes of data -/
/-- the answer: whether its objects are new, the data -/
abbrev G1 := T → Option (Bool × T)
abbrev G2 := T → T → Option (Bool × T)
abbrev GN := List T → Option (Bool × T)
/-- what is known of the answer -/
structure OQ (K : PySem.W.Frag) (p : Addr) (H : Hp) (C : List Addr) (n : Bool) (t : T) (v : V) (H' : Hp) (B : List Addr) : Prop where
  vw : Vw K p H' v t B
  same : Same H H'
  own : n = true → B.Nodup ∧ ∀ a ∈ B, H a = none
  sub : ∀ a ∈ B, a ∈ C ∨ H a = none
def O1 (K : PySem.W.Frag) (r : V → Hp → VK → Prop) (g : G1) : Prop := ∀ (p : Addr) (H : Hp) (x : V) (tx : T) (B : List Addr) (n : Bool) (t : T) (Q : VK), Vw K p H x tx B → g tx = some (n, t) → (∀ v H' C, OQ K p H B n t v H' C → Q v H') → r x H Q
def O2 (K : PySem.W.Frag) (r : R2) (g : G2) : Prop := ∀ (p : Addr) (H : Hp) (x y : V) (tx ty : T) (B C : List Addr) (n : Bool) (t : T) (Q : VK), Vw K p H x tx B → Vw K p H y ty C → g tx ty = some (n, t) →
  (∀ v H' D, OQ K p H (B ++ C) n t v H' D → Q v H') → r x y H Q
def ON (K : PySem.W.Frag) (r : List V → Hp → VK → Prop) (g : GN) : Prop := ∀ (p : Addr) (H : Hp) (xs : List V) (ts : List T) (B : List Addr) (n : Bool) (t : T) (Q : VK), VwL K p H xs ts B → g ts = some (n, t) →
  (∀ v H' D, OQ K p H B n t v H' D → Q v H') → r xs H Q
/-- the kind of what is made of two -/
def jk : Kd → Kd → Kd
  | .vw, _ => .vw
  | _, .vw => .vw
  | _, _ => .shr
def kOf (n : Bool) (k : Kd) (t : T) : Cell := nk (if n then .own else match k with | .vw => .vw | _ => .shr) t

section
variable {K : PySem.W.Frag} {p : Addr} {Fs : List Addr} {Z : Addr → Prop} {H H1 H2 : Hp} {σ : L2.St} {S : Slots} {A : Nat → List Addr} {e e1 e2 : Option Src}
/-- an operator's answer is an expression's -/
theorem EQ.op {k : Kd} {C : List Addr} {n : Bool} {t : T} {v : V} {B : List Addr} (h : SR K p Fs Z H σ S e A) (m : Mv Fs H H1) (s1 : SrcR p H1 e1 Fs) (dC : ∀ a ∈ C, a ∉ Fs) (fk : k ≠ .vw → ∀ a ∈ C, ∀ (i : Nat) (t : T), S[i]? = some (some ⟨.own, t⟩) → a ∉ A i)
    (sb : ∀ a ∈ C, Z a) (q : OQ K p H1 C n t v H2 B) : EQ K p Fs Z H S A (kOf n k t) e1 v H2 B := by
  have h1 := h.move m s1
  have hnone : ∀ a, H1 a = none → H a = none := fun a z => m.none_src s1 z
  refine EQ.of q.vw (s1.stay fun a o _ z => q.same a o z) (m.trans0 (fun b o z _ => q.same b o z)) (fun a mB z => ?_) (fun hn => ?_) (fun hn a mB i t0 hi => ?_) (fun a mB => ?_)
  · rcases q.sub a mB with y | y
    · exact dC a y z
    · have mu := s1.mut a z
      rw [y] at mu
      exact mu
  · cases n with
    | false => cases k <;> simp at hn
    | true =>
      obtain ⟨o1, o2⟩ := q.own rfl
      exact ⟨o1, fun a m => hnone a (o2 a m)⟩
  · rcases q.sub a mB with y | y
    · refine fk ?_ a y i t0 hi
      intro z
      subst z
      cases n <;> simp at hn
    · intro z
      have mu := h1.mut hi a z
      rw [y] at mu
      exact mu
  · rcases q.sub a mB with y | y
    · exact sb a y
    · exact h.zn a (hnone a y)
end

section
variable {K : PySem.W.Frag} {X : Cx} {pos : Pos} {a b : Expr} {ta tb : TE}
def xBin (g : G2) (fa fb : Ex) : Ex := fun S e => do
  let (x, e) ← fa S e
  let (y, e) ← fb S e
  let (n, t) ← g x.t y.t
  some (kOf n (jk x.k y.k) t, e)
theorem jk_vw {k l : Kd} (h : jk k l ≠ .vw) : k ≠ .vw ∧ l ≠ .vw := by
  cases k <;> cases l <;> simp [jk] at h ⊢
/-- a kind that is not vw: the objects are no owned slot's -/
theorem EQ.apart {K : PySem.W.Frag} {p : Addr} {Fs : List Addr} {Z : Addr → Prop} {H H' : Hp} {σ : L2.St} {S : Slots} {A : Nat → List Addr} {e : Option Src} {c : Cell} {e' : Option Src} {v : V} {B : List Addr} (h : SR K p Fs Z H σ S e A) (q : EQ K p Fs Z H S A c e' v H' B) (hk : c.k ≠ .vw) :
    ∀ a ∈ B, ∀ (i : Nat) (t : T), S[i]? = some (some ⟨.own, t⟩) → a ∉ A i := fun a m i t hi => by
  cases k : c.k with
  | own =>
    intro z
    have mu := h.mut hi a z
    rw [(q.own k).2 a m] at mu
    exact mu
  | shr => exact q.shr k a m i t hi
  | vw => exact absurd k hk
theorem rd_bin {K : PySem.W.Frag} {r : R2} {g : G2} {ta tb : TE} {fa fb : Ex} (ho : O2 K r g) (ha : Rd K ta fa) (hb : Rd K tb fb) : Rd K (tOp r ta tb) (xBin g fa fb) := fun p Fs Z H σ S e A Q c e' h hf k => by
  unfold xBin at hf
  cases h1 : fa S e with
  | none => rw [h1] at hf; cases hf
  | some z =>
    obtain ⟨x, e1⟩ := z
    rw [h1] at hf
    cases h2 : fb S e1 with
    | none => simp [h2] at hf
    | some z =>
      obtain ⟨y, e2⟩ := z
      simp only [h2, Option.bind_eq_bind, Option.bind_some] at hf
      cases h3 : g x.t y.t with
      | none => rw [h3] at hf; cases hf
      | some z =>
        obtain ⟨n, t⟩ := z
        simp only [h3, Option.bind_some, Option.some.injEq, Prod.mk.injEq] at hf
        obtain ⟨rfl, rfl⟩ := hf
        refine ha p Fs Z H σ S e A _ x e1 h h1 fun v H1 B q1 => ?_
        have hs1 := h.behind q1
        refine hb p Fs Z H1 σ S e1 A _ y e2 hs1 h2 fun u H2 C q2 => ?_
        have q1' := EQ.more h q1 q2.mv q2.src
        refine ho p H2 v u x.t y.t B C n t Q q1'.vw q2.vw h3 fun w H3 D q3 => k w H3 D ?_
        refine EQ.op h (q1.mv.trans0 q2.mv) q2.src (fun a m => ?_) (fun nk a m i t0 hi => ?_) (fun a m => ?_) q3
        · rcases List.mem_append.mp m with m | m
          · exact q1.df a m
          · exact q2.df a m
        · obtain ⟨n1, n2⟩ := jk_vw nk
          rcases List.mem_append.mp m with m | m
          · exact EQ.apart h q1 n1 a m i t0 hi
          · exact EQ.apart hs1 q2 n2 a m i t0 hi
        · rcases List.mem_append.mp m with m | m
          · exact q1.sub a m
          · exact q2.sub a m
theorem dx_bin {op : Operator} {r : R2} {g : G2} {fa fb : Ex} (hr : OpR X (binaryOp op) r) (ho : O2 K r g) (ha : DX K X a ta fa) (hb : DX K X b tb fb) : DX K X (.BinOp a op b pos) (tOp r ta tb) (xBin g fa fb) := by
  obtain ⟨pa, ra⟩ := ha
  obtain ⟨pb, rb⟩ := hb
  exact ⟨pe_op hr pa pb, rd_bin ho ra rb⟩
theorem dx_cmp {op : CmpOp} {r : R2} {g : G2} {fa fb : Ex} (hr : OpR X (compareOp op) r) (ho : O2 K r g) (ha : DX K X a ta fa) (hb : DX K X b tb fb) (hm : behindInMarks op b = false) : DX K X (.Compare a [op] [b] pos) (tOp r ta tb) (xBin g fa fb) := by
  obtain ⟨pa, ra⟩ := ha
  obtain ⟨pb, rb⟩ := hb
  exact ⟨pe_cmpR hr pa pb hm, rd_bin ho ra rb⟩
theorem dx_ix {r : R2} {g : G2} {fa fb : Ex} (hr : IxR X r) (ho : O2 K r g) (ha : DX K X a ta fa) (hb : DX K X b tb fb) (hs : PlainIx b) : DX K X (.Subscript a b pos) (tOp r ta tb) (xBin g fa fb) := by
  obtain ⟨pa, ra⟩ := ha
  obtain ⟨pb, rb⟩ := hb
  exact ⟨pe_ix hr pa pb hs, rd_bin ho ra rb⟩
end
end DL

set_option Elab.async false
set_option linter.all false
set_option maxRecDepth 100000
set_option maxHeartbeats 1000000
namespace DL
open PySem PySem.Spec PyProof.Rows L2

/-! ### argument lists -/
abbrev Ax := Slots → Option Src → Option (List Cell × Option Src)
def ts (cs : List Cell) : List T := cs.map (·.t)
/-- the kind of several together -/
def jl (cs : List Cell) : Kd := if cs.all (fun c => c.t.flat || decide (c.k = .own)) then .own else if cs.any (fun c => !c.t.flat && decide (c.k = .vw)) then .vw else .shr
structure EA (K : PySem.W.Frag) (p : Addr) (Fs : List Addr) (Z : Addr → Prop) (H : Hp) (S : Slots) (A : Nat → List Addr) (cs : List Cell) (e' : Option Src) (vs : List V) (H' : Hp) (B : List Addr) : Prop where
  vw : VwL K p H' vs (ts cs) B
  src : SrcR p H' e' Fs
  mv : Mv Fs H H'
  df : ∀ a ∈ B, a ∉ Fs
  own : cs.all (fun c => c.t.flat || decide (c.k = .own)) = true → B.Nodup ∧ ∀ a ∈ B, H a = none
  shr : cs.any (fun c => !c.t.flat && decide (c.k = .vw)) = false → ∀ a ∈ B, ∀ (i : Nat) (t : T), S[i]? = some (some ⟨.own, t⟩) → a ∉ A i
  sub : ∀ a ∈ B, Z a
def RdA (K : PySem.W.Frag) (t : TA) (f : Ax) : Prop :=
  ∀ (p : Addr) (Fs : List Addr) (Z : Addr → Prop) (H : Hp) (σ : L2.St) (S : Slots) (e : Option Src) (A : Nat → List Addr) (Q : List V → Hp → Prop) (cs : List Cell) (e' : Option Src),
    SR K p Fs Z H σ S e A → f S e = some (cs, e') → (∀ vs H' B, EA K p Fs Z H S A cs e' vs H' B → Q vs H') → t σ H Q
structure DA (K : PySem.W.Frag) (X : Cx) (es : List Expr) (t : TA) (f : Ax) : Prop where
  pa : PA X es t
  rd : RdA K t f
def aNil : Ax := fun _ e => some ([], e)
def aCons (f : Ex) (g : Ax) : Ax := fun S e => do
  let (c, e) ← f S e
  let (cs, e) ← g S e
  some (c :: cs, e)
section
variable {K : PySem.W.Frag}
theorem rda_nil : RdA K tNil aNil := fun p Fs Z H σ S e A Q cs e' h hf k => by
  have e1 := Option.some.inj hf
  have e2 : ([] : List Cell) = cs := congrArg Prod.fst e1
  have e3 : e = e' := congrArg Prod.snd e1
  subst e2 e3
  exact k [] H [] ⟨.nil, h.src, Mv.refl _ _, (fun a m => absurd m List.not_mem_nil), (fun _ => ⟨List.nodup_nil, fun a m => absurd m List.not_mem_nil⟩), (fun _ a m => absurd m List.not_mem_nil), fun a m => absurd m List.not_mem_nil⟩
theorem SR.behindA {p : Addr} {Fs : List Addr} {Z : Addr → Prop} {H H1 : Hp} {σ : L2.St} {S : Slots} {A : Nat → List Addr} {cs : List Cell} {e e1 : Option Src} {vs : List V} {B : List Addr} (h : SR K p Fs Z H σ S e A) (q : EA K p Fs Z H S A cs e1 vs H1 B) : SR K p Fs Z H1 σ S e1 A := h.move q.mv q.src
theorem EQ.flat_nil {p : Addr} {Fs : List Addr} {Z : Addr → Prop} {H H' : Hp} {S : Slots} {A : Nat → List Addr} {c : Cell} {e' : Option Src} {v : V} {B : List Addr} (q : EQ K p Fs Z H S A c e' v H' B) (f : c.t.flat = true) : B = [] := q.vw.flat f
theorem rda_cons {ta : TE} {tb : TA} {fa : Ex} {fb : Ax} (ha : Rd K ta fa) (hb : RdA K tb fb) : RdA K (tCons ta tb) (aCons fa fb) := fun p Fs Z H σ S e A Q cs e' h hf k => by
  unfold aCons at hf
  cases h1 : fa S e with
  | none => rw [h1] at hf; cases hf
  | some z =>
    obtain ⟨x, e1⟩ := z
    rw [h1] at hf
    cases h2 : fb S e1 with
    | none => simp [h2] at hf
    | some z =>
      obtain ⟨ys, e2⟩ := z
      simp only [h2, Option.bind_eq_bind, Option.bind_some, Option.some.injEq, Prod.mk.injEq] at hf
      obtain ⟨rfl, rfl⟩ := hf
      refine ha p Fs Z H σ S e A _ x e1 h h1 fun v H1 B q1 => ?_
      have hs1 := h.behind q1
      refine hb p Fs Z H1 σ S e1 A _ ys e2 hs1 h2 fun us H2 C q2 => ?_
      have q1' := EQ.more h q1 q2.mv q2.src
      have nn : ∀ a, H1 a = none → H a = none := fun a z => q1.mv.none_src q1.src z
      refine k (v :: us) H2 (B ++ C) ⟨.cons q1'.vw q2.vw, q2.src, q1.mv.trans0 q2.mv, fun a m => ?_, fun ho => ?_, fun hv a m i t hi => ?_, fun a m => ?_⟩
      · rcases List.mem_append.mp m with m | m
        · exact q1.df a m
        · exact q2.df a m
      · rw [List.all_cons, Bool.and_eq_true] at ho
        obtain ⟨o1, o2⟩ := ho
        obtain ⟨n2, f2⟩ := q2.own o2
        have b1 : B.Nodup ∧ ∀ a ∈ B, H a = none := by
          rw [Bool.or_eq_true] at o1
          rcases o1 with z | z
          · rw [q1.flat_nil z]
            exact ⟨List.nodup_nil, fun a m => absurd m List.not_mem_nil⟩
          · exact q1.own (of_decide_eq_true z)
        refine ⟨List.nodup_append.mpr ⟨b1.1, n2, fun a ma b mb z => ?_⟩, fun a m => ?_⟩
        · subst z
          obtain ⟨o, ho⟩ := q1.vw.there ma
          rw [f2 a mb] at ho
          cases ho
        · rcases List.mem_append.mp m with m | m
          · exact b1.2 a m
          · exact nn a (f2 a m)
      · rw [List.any_cons, Bool.or_eq_false_iff] at hv
        obtain ⟨v1, v2⟩ := hv
        rcases List.mem_append.mp m with m | m
        · rw [Bool.and_eq_false_iff] at v1
          rcases v1 with z | z
          · have z' : x.t.flat = true := by simpa using z
            rw [q1.flat_nil z'] at m
            exact absurd m List.not_mem_nil
          · exact EQ.apart h q1 (of_decide_eq_false z) a m i t hi
        · exact q2.shr v2 a m i t hi
      · rcases List.mem_append.mp m with m | m
        · exact q1.sub a m
        · exact q2.sub a m
theorem EA.apart {p : Addr} {Fs : List Addr} {Z : Addr → Prop} {H H' : Hp} {σ : L2.St} {S : Slots} {A : Nat → List Addr} {e : Option Src} {cs : List Cell} {e' : Option Src} {vs : List V} {B : List Addr} (h : SR K p Fs Z H σ S e A) (q : EA K p Fs Z H S A cs e' vs H' B) (hk : jl cs ≠ .vw) :
    ∀ a ∈ B, ∀ (i : Nat) (t : T), S[i]? = some (some ⟨.own, t⟩) → a ∉ A i := fun a m i t hi => by
  unfold jl at hk
  by_cases o : cs.all (fun c => c.t.flat || decide (c.k = .own)) = true
  · intro z
    have mu := h.mut hi a z
    rw [(q.own o).2 a m] at mu
    exact mu
  · rw [if_neg o] at hk
    by_cases u : cs.any (fun c => !c.t.flat && decide (c.k = .vw)) = true
    · rw [if_pos u] at hk
      exact absurd rfl hk
    · exact q.shr (by simpa using u) a m i t hi
/-- an operation on several -/
def xCall (g : GN) (f : Ax) : Ex := fun S e => do
  let (cs, e) ← f S e
  let (n, t) ← g (ts cs)
  some (kOf n (jl cs) t, e)
theorem rd_call {r : List V → Hp → VK → Prop} {g : GN} {ta : TA} {fa : Ax} (ho : ON K r g) (ha : RdA K ta fa) : Rd K (tCB r ta) (xCall g fa) := fun p Fs Z H σ S e A Q c e' h hf k => by
  unfold xCall at hf
  cases h1 : fa S e with
  | none => rw [h1] at hf; cases hf
  | some z =>
    obtain ⟨cs, e1⟩ := z
    rw [h1] at hf
    cases h3 : g (ts cs) with
    | none => simp [h3] at hf
    | some z =>
      obtain ⟨n, t⟩ := z
      simp only [h3, Option.bind_eq_bind, Option.bind_some, Option.some.injEq, Prod.mk.injEq] at hf
      obtain ⟨rfl, rfl⟩ := hf
      refine ha p Fs Z H σ S e A _ cs e1 h h1 fun vs H1 B q1 => ?_
      exact ho p H1 vs (ts cs) B n t Q q1.vw h3 fun v H2 D q3 => k v H2 D (EQ.op h q1.mv q1.src q1.df (fun nk => EA.apart h q1 nk) q1.sub q3)
end

section
variable {K : PySem.W.Frag} {X : Cx} {pos : Pos} {a b : Expr} {es : List Expr} {ta tb : TE} {tes : TA} {tl tu : TO} {tt uu vv : TT}
theorem da_nil : DA K X [] tNil aNil := ⟨pa_nil, rda_nil⟩
theorem da_cons {f : Ex} {g : Ax} (ha : DX K X a ta f) (hr : DA K X es tes g) (hs : starEach (a :: es) X.env = (false, eval a X.env) :: starEach es X.env := by rfl) : DA K X (a :: es) (tCons ta tes) (aCons f g) := by
  obtain ⟨pa, ra⟩ := ha
  obtain ⟨pb, rb⟩ := hr
  exact ⟨pa_cons pa pb hs, rda_cons ra rb⟩
/-- a built-in function by its name -/
theorem dx_callB {id : String} {x : Str} {p : Pos} {r : List V → Hp → VK → Prop} {g : GN} {f : Ax} (hc : CallR X (.builtin id) r) (ho : ON K r g) (hm : X.mg x = none) (hg : Gl X x) (hv : bootBuiltins x = some (.builtin id)) (ha : DA K X (a :: es) tes f) (hn : x ≠ "__name__" := by decide) (hdb : (x == ("__debug__" : Str)) = false := by decide)
    (he : starEach (a :: es) X.env = (false, eval a X.env) :: starEach es X.env := by rfl) (hpl : (backTo pos (starEach es X.env)).any (·.1) = false := by rfl) : DX K X (.Call (.Name x p) (a :: es) [] pos) (tCB r tes) (xCall g f) := by
  obtain ⟨pa, ra⟩ := ha
  exact ⟨pe_callB hc hg hm hv pa hn hdb he hpl, rd_call ho ra⟩
/-- a built-in class by its name -/
theorem dx_callT {T : String} {x : Str} {p : Pos} {r : List V → Hp → VK → Prop} {g : GN} {f : Ax} (hc : CallR X (.type T) r) (ho : ON K r g) (hm : X.mg x = none) (hg : Gl X x) (hv : bootBuiltins x = some (.type T)) (ha : DA K X (a :: es) tes f) (hn : x ≠ "__name__" := by decide) (hdb : (x == ("__debug__" : Str)) = false := by decide)
    (he : starEach (a :: es) X.env = (false, eval a X.env) :: starEach es X.env := by rfl) (hpl : (backTo pos (starEach es X.env)).any (·.1) = false := by rfl) : DX K X (.Call (.Name x p) (a :: es) [] pos) (tCB r tes) (xCall g f) := by
  obtain ⟨pa, ra⟩ := ha
  exact ⟨pe_callTy hc hg hm hv pa hn hdb he hpl, rd_call ho ra⟩

/-! ### displays -/
def gTup : GN := fun ts => if ts.all T.flat && decide (ts.length ≤ sizeLine) then some (true, .tup ts) else none
theorem VwL.flat {K : PySem.W.Frag} {p : Addr} {H : Hp} {vs : List V} {ts : List T} {A : List Addr} : VwL K p H vs ts A → ts.all T.flat = true → A = []
  | .nil, _ => rfl
  | .cons h r, f => by
    rw [List.all_cons, Bool.and_eq_true] at f
    rw [h.flat f.1, VwL.flat r f.2]
    rfl
theorem same_new {H : Hp} {p : Addr} {o : HO} (h : H p = none) : Same H (upd H p o) := fun b u e => by
  rw [upd_ne (ne_of_none e h)]
  exact e
/-- a new object over what is seen -/
theorem OQ.tup {K : PySem.W.Frag} {p : Addr} {H : Hp} {C : List Addr} {l : Addr} {vs : List V} {ts : List T} {n : Bool} {o : Obj} (h : VwL K p H vs ts []) (hl : H l = none) (hd : o.dict = none) : OQ K p H C n (.tup ts) (.ref l) (upd H l (.frz o (.tup vs))) [] :=
  ⟨.tup (SqF.of hd) (h.same (same_new hl)), same_new hl, fun _ => ⟨List.nodup_nil, fun a m => absurd m List.not_mem_nil⟩, fun a m => absurd m List.not_mem_nil⟩
theorem OQ.lst {K : PySem.W.Frag} {p : Addr} {H : Hp} {C : List Addr} {l : Addr} {vs : List V} {ts : List T} (n : Bool) {A : List Addr} (h : VwL K p H vs ts A) (hl : H l = none) (own : n = true → A.Nodup ∧ ∀ a ∈ A, H a = none) (sub : ∀ a ∈ A, a ∈ C) : OQ K p H C n (.lst ts) (.ref l) (upd H l (.lst vs)) (l :: A) := by
  have nl : l ∉ A := fun z => by
    obtain ⟨o, ho⟩ := h.there z
    rw [hl] at ho
    cases ho
  refine ⟨.lst upd_same (h.same (same_new hl)), same_new hl, fun hn => ?_, fun a m => ?_⟩
  · obtain ⟨n1, f1⟩ := own hn
    refine ⟨List.nodup_cons.mpr ⟨nl, n1⟩, fun a m => ?_⟩
    rcases List.mem_cons.mp m with z | m
    · rw [z]; exact hl
    · exact f1 a m
  · rcases List.mem_cons.mp m with z | m
    · rw [z]; exact .inr hl
    · exact .inl (sub a m)
def rTupF : List V → Hp → VK → Prop := fun vs H Q => vs.length ≤ sizeLine ∧ ∀ (p : Addr) (o : Obj), H p = none → o.dict = none → Q (.ref p) (upd H p (.frz o (.tup vs)))
theorem on_tup {K : PySem.W.Frag} : ON K rTupF gTup := fun p H xs ts B n t Q hv hg k => by
  unfold gTup at hg
  split at hg
  · rename_i hc
    rw [Bool.and_eq_true] at hc
    have e1 := Option.some.inj hg
    cases e1
    have e := hv.flat hc.1
    subst e
    refine ⟨by rw [hv.length]; exact of_decide_eq_true hc.2, fun l o hl ho => k _ _ [] (OQ.tup hv hl ho)⟩
  · cases hg
theorem laid_frz {X : Cx} {pins : List (Addr × Obj)} {σ : L2.St} {H : Hp} {s : Shared} {h' : Heap} {t' : Nat} {a : Addr} {o : Obj} {xs : List V} {us : List Value} {n : Nat} (I : Inv X pins σ H s) (k : ∀ b u, s.heap.get? b = some u → h'.get? b = some u) (hp : s.heap.objs.size ≤ a) (e : h'.get? a = some o) (hc : o.cls = .type "tuple") (hd : o.data = .seq us.toArray n) (r : Vals xs us) (hz : xs.length ≤ sizeLine) :
    Inv X pins σ (upd H a (.frz o (.tup xs))) { s with heap := h', toks := t' } := I.laid k hp ⟨e, hz, us, r, o, e, hc, n, hd⟩
theorem pe_tupF {x1} (h : PA X es tes) : PE X (.Tuple es x1 pos) (tCB rTupF tes) := by
  refine ⟨fun pins s σ H Q I hq => ?_⟩
  refine wpAny_Tuple_spliced (thn (h.run pos pins s σ H _ I hq) fun us s1 ⟨xs, H1, I1, r, z, q⟩ => ⟨by rw [← r.length]; exact z, ?_⟩)
  have hf : H1 s1.heap.objs.size = none := I1.hok.fresh (Nat.le_refl _)
  exact ⟨.ref s1.heap.objs.size, _, laid_frz (t' := s1.toks) I1 (fun b u e => Heap.get?_push_of_some _ e) (Nat.le_refl _) (Heap.get?_push_size _ rfl) rfl rfl r z, rfl, q _ _ hf rfl⟩
theorem dx_tup {x1} {f : Ax} (ha : DA K X es tes f) : DX K X (.Tuple es x1 pos) (tCB rTupF tes) (xCall gTup f) := by
  obtain ⟨pa, ra⟩ := ha
  exact ⟨pe_tupF pa, rd_call on_tup ra⟩
/-- a list display: new, and what it holds, if all of that is new or flat -/
def xLst (f : Ax) : Ex := fun S e => do
  let (cs, e) ← f S e
  if cs.length ≤ sizeLine then some (⟨jl cs, .lst (ts cs)⟩, e) else none
theorem rd_lst {K : PySem.W.Frag} {ta : TA} {fa : Ax} (ha : RdA K ta fa) : Rd K (tLst ta) (xLst fa) := fun p Fs Z H σ S e A Q c e' h hf k => by
  unfold xLst at hf
  cases h1 : fa S e with
  | none => rw [h1] at hf; cases hf
  | some z =>
    obtain ⟨cs, e1⟩ := z
    rw [h1] at hf
    simp only [Option.bind_eq_bind, Option.bind_some] at hf
    split at hf
    · rename_i hz
      simp only [Option.some.injEq, Prod.mk.injEq] at hf
      obtain ⟨rfl, rfl⟩ := hf
      refine ha p Fs Z H σ S e A _ cs e1 h h1 fun vs H1 B q1 => ?_
      have hl : vs.length = cs.length := by
        have := q1.vw.length
        unfold ts at this
        rw [List.length_map] at this
        exact this
      refine ⟨by rw [hl]; exact hz, fun l nl => ?_⟩
      have lB : l ∉ B := fun z => by
        obtain ⟨o, ho⟩ := q1.vw.there z
        rw [nl] at ho
        cases ho
      have nlH : H l = none := q1.mv.none_src q1.src nl
      have hs1 := h.behindA q1
      have lF : l ∉ Fs := fun z => by
        have mu := q1.src.mut l z
        rw [nl] at mu
        exact mu
      refine k (.ref l) _ (l :: B) ⟨.lst upd_same (q1.vw.same (same_new nl)), q1.src.stay (fun a o _ z => same_new nl a o z), q1.mv.trans0 (fun b o z _ => same_new nl b o z), fun a m => ?_, fun hk => ?_, fun hk a m i t hi => ?_, fun a m => ?_⟩
      · rcases List.mem_cons.mp m with z | m
        · rw [z]; exact lF
        · exact q1.df a m
      · have o : cs.all (fun c => c.t.flat || decide (c.k = .own)) = true := by
          have hk' : jl cs = .own := hk
          unfold jl at hk'
          by_cases o : cs.all (fun c => c.t.flat || decide (c.k = .own)) = true
          · exact o
          · rw [if_neg o] at hk'
            split at hk' <;> cases hk'
        obtain ⟨n1, f1⟩ := q1.own o
        refine ⟨List.nodup_cons.mpr ⟨lB, n1⟩, fun a m => ?_⟩
        rcases List.mem_cons.mp m with z | m
        · rw [z]; exact nlH
        · exact f1 a m
      · rcases List.mem_cons.mp m with z | m
        · intro y
          have mu := hs1.mut hi a y
          rw [z, nl] at mu
          exact mu
        · exact EA.apart h q1 (by have hk' : jl cs = .shr := hk; rw [hk']; decide) a m i t hi
      · rcases List.mem_cons.mp m with z | m
        · rw [z]; exact h.zn l nlH
        · exact q1.sub a m
    · cases hf
theorem dx_lst {f : Ax} (ha : DA K X es tes f) : DX K X (.List es pos) (tLst tes) (xLst f) := by
  obtain ⟨pa, ra⟩ := ha
  exact ⟨pe_lst pa, rd_lst ra⟩

/-! ### one operand -/
def xUn (g : G1) (f : Ex) : Ex := fun S e => do
  let (c, e) ← f S e
  let (n, t) ← g c.t
  some (kOf n c.k t, e)
theorem rd_un {K : PySem.W.Frag} {r : V → Hp → VK → Prop} {g : G1} {ta : TE} {fa : Ex} (ho : O1 K r g) (ha : Rd K ta fa) : Rd K (tUn r ta) (xUn g fa) := fun p Fs Z H σ S e A Q c e' h hf k => by
  unfold xUn at hf
  cases h1 : fa S e with
  | none => rw [h1] at hf; cases hf
  | some z =>
    obtain ⟨x, e1⟩ := z
    rw [h1] at hf
    cases h3 : g x.t with
    | none => simp [h3] at hf
    | some z =>
      obtain ⟨n, t⟩ := z
      simp only [h3, Option.bind_eq_bind, Option.bind_some, Option.some.injEq, Prod.mk.injEq] at hf
      obtain ⟨rfl, rfl⟩ := hf
      refine ha p Fs Z H σ S e A _ x e1 h h1 fun v H1 B q1 => ?_
      exact ho p H1 v x.t B n t Q q1.vw h3 fun w H2 D q3 => k w H2 D (EQ.op h q1.mv q1.src q1.df (fun nk => EQ.apart h q1 nk) q1.sub q3)
theorem dx_un {op : UnaryOp} {r : V → Hp → VK → Prop} {g : G1} {f : Ex} (hr : UnR X (unaryOp op) r) (ho : O1 K r g) (ha : DX K X a ta f) : DX K X (.UnaryOp op a pos) (tUn r ta) (xUn g f) := by
  obtain ⟨pa, ra⟩ := ha
  exact ⟨pe_un hr pa, rd_un ho ra⟩

/-! ### slices -/
abbrev Ox := Slots → Option Src → Option (Option Int × Option Src)
def RdO (K : PySem.W.Frag) (t : TO) (f : Ox) : Prop :=
  ∀ (p : Addr) (Fs : List Addr) (Z : Addr → Prop) (H : Hp) (σ : L2.St) (S : Slots) (e : Option Src) (A : Nat → List Addr) (Q : Option Int → Hp → Prop) (i : Option Int) (e' : Option Src),
    SR K p Fs Z H σ S e A → f S e = some (i, e') → (∀ H', SrcR p H' e' Fs → Mv Fs H H' → Q i H') → t σ H Q
structure DO (K : PySem.W.Frag) (X : Cx) (o : Option Expr) (t : TO) (f : Ox) : Prop where
  po : PO X o t
  rd : RdO K t f
def oNone : Ox := fun _ e => some (none, e)
def oSome (f : Ex) : Ox := fun S e => do
  let (c, e) ← f S e
  match c.t with
  | .int i => some (some i, e)
  | _ => none
theorem do_none : DO K X none tNoPart oNone := ⟨po_none, fun p Fs Z H σ S e A Q i e' h hf k => by
  have e1 := Option.some.inj hf
  have e2 : (none : Option Int) = i := congrArg Prod.fst e1
  have e3 : e = e' := congrArg Prod.snd e1
  subst e2 e3
  exact k H h.src (Mv.refl _ _)⟩
theorem do_some {f : Ex} (ha : DX K X a ta f) : DO K X (some a) (tPart ta) (oSome f) := by
  obtain ⟨pa, ra⟩ := ha
  refine ⟨po_some pa, fun p Fs Z H σ S e A Q i e' h hf k => ?_⟩
  unfold oSome at hf
  cases h1 : f S e with
  | none => rw [h1] at hf; cases hf
  | some z =>
    obtain ⟨⟨kx, x⟩, e1⟩ := z
    rw [h1] at hf
    cases x with
    | int j =>
      have e1' := Option.some.inj hf
      have e2 : some j = i := congrArg Prod.fst e1'
      have e3 : e1 = e' := congrArg Prod.snd e1'
      subst e2 e3
      refine ra p Fs Z H σ S e A _ _ e1 h h1 fun v H1 B q1 => ?_
      have hv := q1.vw
      cases hv
      exact ⟨j, rfl, k H1 q1.src q1.mv⟩
    | _ => simp at hf
/-- by values: the slice of data -/
abbrev G3 := T → Option Int → Option Int → Option (Bool × T)
def O3 (K : PySem.W.Frag) (r : V → Option Int → Option Int → Hp → VK → Prop) (g : G3) : Prop := ∀ (p : Addr) (H : Hp) (x : V) (tx : T) (lo hi : Option Int) (B : List Addr) (n : Bool) (t : T) (Q : VK), Vw K p H x tx B → g tx lo hi = some (n, t) → (∀ v H' C, OQ K p H B n t v H' C → Q v H') → r x lo hi H Q
def xSl (g : G3) (f : Ex) (l u : Ox) : Ex := fun S e => do
  let (c, e) ← f S e
  let (lo, e) ← l S e
  let (hi, e) ← u S e
  let (n, t) ← g c.t lo hi
  some (kOf n c.k t, e)
theorem rd_sl {K : PySem.W.Frag} {r : V → Option Int → Option Int → Hp → VK → Prop} {g : G3} {ta : TE} {tl tu : TO} {fa : Ex} {fl fu : Ox} (ho : O3 K r g) (ha : Rd K ta fa) (hl : RdO K tl fl) (hu : RdO K tu fu) : Rd K (tSl r ta tl tu) (xSl g fa fl fu) := fun p Fs Z H σ S e A Q c e' h hf k => by
  unfold xSl at hf
  cases h1 : fa S e with
  | none => rw [h1] at hf; cases hf
  | some z =>
    obtain ⟨x, e1⟩ := z
    rw [h1] at hf
    cases h2 : fl S e1 with
    | none => simp [h2] at hf
    | some z =>
      obtain ⟨lo, e2⟩ := z
      cases h3 : fu S e2 with
      | none => simp [h2, h3] at hf
      | some z =>
        obtain ⟨hi, e3⟩ := z
        cases h4 : g x.t lo hi with
        | none => simp [h2, h3, h4] at hf
        | some z =>
          obtain ⟨n, t⟩ := z
          simp only [h2, h3, h4, Option.bind_eq_bind, Option.bind_some, Option.some.injEq, Prod.mk.injEq] at hf
          obtain ⟨rfl, rfl⟩ := hf
          refine ha p Fs Z H σ S e A _ x e1 h h1 fun v H1 B q1 => ?_
          have hs1 := h.behind q1
          refine hl p Fs Z H1 σ S e1 A _ lo e2 hs1 h2 fun H2 s2 m2 => ?_
          have hs2 := hs1.move m2 s2
          refine hu p Fs Z H2 σ S e2 A _ hi e3 hs2 h3 fun H3 s3 m3 => ?_
          have q3 := EQ.more h (EQ.more h q1 m2 s2) m3 s3
          exact ho p H3 v x.t lo hi B n t Q q3.vw h4 fun w H4 D q4 => k w H4 D (EQ.op h q3.mv q3.src q3.df (fun nk => EQ.apart h q3 nk) q3.sub q4)
theorem dx_sl {r : V → Option Int → Option Int → Hp → VK → Prop} {g : G3} {f : Ex} {l u : Ox} {lo hi : Option Expr} {p2 : Pos} (hr : SlR X r) (ho : O3 K r g) (ha : DX K X a ta f) (hl : DO K X lo tl l) (hu : DO K X hi tu u) : DX K X (.Subscript a (.Slice lo hi none p2) pos) (tSl r ta tl tu) (xSl g f l u) := by
  obtain ⟨pa, ra⟩ := ha
  obtain ⟨pl, rl⟩ := hl
  obtain ⟨pu, ru⟩ := hu
  exact ⟨pe_slice hr pa pl pu, rd_sl ho ra rl ru⟩

/-! ### tests -/
abbrev Bx := Slots → Option Src → Option (Bool × Option Src)
def RdT (K : PySem.W.Frag) (t : TT) (f : Bx) : Prop :=
  ∀ (p : Addr) (Fs : List Addr) (Z : Addr → Prop) (H : Hp) (σ : L2.St) (S : Slots) (e : Option Src) (A : Nat → List Addr) (Q : Bool → Hp → Prop) (b : Bool) (e' : Option Src),
    SR K p Fs Z H σ S e A → f S e = some (b, e') → (∀ H', SrcR p H' e' Fs → Mv Fs H H' → Q b H') → t σ H Q
structure DT (K : PySem.W.Frag) (X : Cx) (a : Expr) (t : TT) (f : Bx) : Prop where
  pt : PT X a t
  rd : RdT K t f
structure DW (K : PySem.W.Frag) (X : Cx) (a : Expr) (t : TT) (f : Bx) : Prop where
  pw : PW X a t
  rd : RdT K t f
theorem DW.dt {t : TT} {f : Bx} (h : DW K X a t f) : DT K X a t f := ⟨h.pw.pt, h.rd⟩
/-- True or False as a test -/
def bVal (f : Ex) : Bx := fun S e => do
  let (c, e) ← f S e
  match c.t with
  | .bl b => some (b, e)
  | _ => none
theorem rdt_val {K : PySem.W.Frag} {t : TE} {f : Ex} (h : Rd K t f) : RdT K (tB t) (bVal f) := fun p Fs Z H σ S e A Q b e' hs hf k => by
  unfold bVal at hf
  cases h1 : f S e with
  | none => rw [h1] at hf; cases hf
  | some z =>
    obtain ⟨⟨kx, x⟩, e1⟩ := z
    rw [h1] at hf
    cases x with
    | bl d =>
      have e1' := Option.some.inj hf
      have e2 : d = b := congrArg Prod.fst e1'
      have e3 : e1 = e' := congrArg Prod.snd e1'
      subst e2 e3
      refine h p Fs Z H σ S e A _ _ e1 hs h1 fun v H1 B q1 => ?_
      have hv := q1.vw
      cases hv
      exact ⟨d, rfl, k H1 q1.src q1.mv⟩
    | _ => simp at hf
theorem dt_val {f : Ex} (h : DX K X a ta f) (he : ∀ whole, isTrue a X.env whole = (do let v ← whole; standAt a.pos; holding [v] (truthy v)) := by intro _; rfl) : DT K X a (tB ta) (bVal f) := by
  obtain ⟨pa, ra⟩ := h
  exact ⟨pt_val pa he, rdt_val ra⟩
theorem dt_cmp {op : CmpOp} {r : R2} {g : G2} {fa fb : Ex} (hr : OpR X (compareOp op) r) (ho : O2 K r g) (ha : DX K X a ta fa) (hb : DX K X b tb fb) (hm : behindInMarks op b = false) : DT K X (.Compare a [op] [b] pos) (tTest (tOp r ta tb)) (bVal (xBin g fa fb)) := by
  obtain ⟨pa, ra⟩ := ha
  obtain ⟨pb, rb⟩ := hb
  exact ⟨pt_cmpR hr pa pb hm, rdt_val (rd_bin ho ra rb)⟩
def bNot (f : Bx) : Bx := fun S e => do
  let (b, e) ← f S e
  some (!b, e)
theorem dt_not {f : Bx} (h : DT K X a tt f) : DT K X (.UnaryOp .Not a pos) (tNot tt) (bNot f) := by
  obtain ⟨pa, ra⟩ := h
  refine ⟨pt_not pa, fun p Fs Z H σ S e A Q b e' hs hf k => ?_⟩
  unfold bNot at hf
  cases h1 : f S e with
  | none => rw [h1] at hf; cases hf
  | some z =>
    obtain ⟨d, e1⟩ := z
    rw [h1] at hf
    simp only [Option.bind_eq_bind, Option.bind_some, Option.some.injEq, Prod.mk.injEq] at hf
    obtain ⟨rfl, rfl⟩ := hf
    exact ra p Fs Z H σ S e A _ d e1 hs h1 fun H1 s1 m1 => k H1 s1 m1
def bAnd (f g : Bx) : Bx := fun S e => do
  let (b, e) ← f S e
  if b then g S e else some (false, e)
def bOr (f g : Bx) : Bx := fun S e => do
  let (b, e) ← f S e
  if b then some (true, e) else g S e
variable {rest : List Expr}
theorem dw_and1 {f : Bx} (h : DT K X a tt f) : DW K X (.BoolOp .And [a] pos) tt f := ⟨pw_and1 h.pt, h.rd⟩
theorem dw_or1 {f : Bx} (h : DT K X a tt f) : DW K X (.BoolOp .Or [a] pos) tt f := ⟨pw_or1 h.pt, h.rd⟩
theorem dw_and {f g : Bx} (h : DT K X a tt f) (h2 : DW K X (.BoolOp .And (b :: rest) pos) uu g) : DW K X (.BoolOp .And (a :: b :: rest) pos) (tAnd tt uu) (bAnd f g) := by
  obtain ⟨pa, ra⟩ := h
  obtain ⟨pb, rb⟩ := h2
  refine ⟨pw_and pa pb, fun p Fs Z H σ S e A Q d e' hs hf k => ?_⟩
  unfold bAnd at hf
  cases h1 : f S e with
  | none => rw [h1] at hf; cases hf
  | some z =>
    obtain ⟨c, e1⟩ := z
    rw [h1] at hf
    simp only [Option.bind_eq_bind, Option.bind_some] at hf
    refine ra p Fs Z H σ S e A _ c e1 hs h1 fun H1 s1 m1 => ?_
    cases c with
    | true =>
      refine iteT ?_
      exact rb p Fs Z H1 σ S e1 A _ d e' (hs.move m1 s1) (by simpa using hf) fun H2 s2 m2 => k H2 s2 (m1.trans0 m2)
    | false =>
      refine iteF ?_
      simp only [Bool.false_eq_true, if_false, Option.some.injEq, Prod.mk.injEq] at hf
      obtain ⟨rfl, rfl⟩ := hf
      exact k H1 s1 m1
theorem dw_or {f g : Bx} (h : DT K X a tt f) (h2 : DW K X (.BoolOp .Or (b :: rest) pos) uu g) : DW K X (.BoolOp .Or (a :: b :: rest) pos) (tOr tt uu) (bOr f g) := by
  obtain ⟨pa, ra⟩ := h
  obtain ⟨pb, rb⟩ := h2
  refine ⟨pw_or pa pb, fun p Fs Z H σ S e A Q d e' hs hf k => ?_⟩
  unfold bOr at hf
  cases h1 : f S e with
  | none => rw [h1] at hf; cases hf
  | some z =>
    obtain ⟨c, e1⟩ := z
    rw [h1] at hf
    simp only [Option.bind_eq_bind, Option.bind_some] at hf
    refine ra p Fs Z H σ S e A _ c e1 hs h1 fun H1 s1 m1 => ?_
    cases c with
    | false =>
      refine iteF ?_
      exact rb p Fs Z H1 σ S e1 A _ d e' (hs.move m1 s1) (by simpa using hf) fun H2 s2 m2 => k H2 s2 (m1.trans0 m2)
    | true =>
      refine iteT ?_
      simp only [if_true, Option.some.injEq, Prod.mk.injEq] at hf
      obtain ⟨rfl, rfl⟩ := hf
      exact k H1 s1 m1
/-- a if t else b -/
def xIf (c : Bx) (f g : Ex) : Ex := fun S e => do
  let (b, e) ← c S e
  if b then f S e else g S e
theorem EQ.after {K : PySem.W.Frag} {p : Addr} {Fs : List Addr} {Z : Addr → Prop} {H H1 H2 : Hp} {S : Slots} {A : Nat → List Addr} {c : Cell} {e1 e2 : Option Src} {v : V} {B : List Addr} (m : Mv Fs H H1) (s1 : SrcR p H1 e1 Fs) (q : EQ K p Fs Z H1 S A c e2 v H2 B) : EQ K p Fs Z H S A c e2 v H2 B :=
  ⟨q.vw, q.src, m.trans0 q.mv, q.df, fun z => ⟨(q.own z).1, fun a ma => m.none_src s1 ((q.own z).2 a ma)⟩, q.shr, q.sub⟩
theorem dx_if {c : Expr} {d : Bx} {f g : Ex} (hc : DT K X c tt d) (ha : DX K X a ta f) (hb : DX K X b tb g) : DX K X (.IfExp c a b pos) (tIf tt ta tb) (xIf d f g) := by
  obtain ⟨pc, rc⟩ := hc
  obtain ⟨pa, ra⟩ := ha
  obtain ⟨pb, rb⟩ := hb
  refine ⟨pe_ifExp pc pa pb, fun p Fs Z H σ S e A Q c0 e' hs hf k => ?_⟩
  unfold xIf at hf
  cases h1 : d S e with
  | none => rw [h1] at hf; cases hf
  | some z =>
    obtain ⟨b0, e1⟩ := z
    rw [h1] at hf
    simp only [Option.bind_eq_bind, Option.bind_some] at hf
    refine rc p Fs Z H σ S e A _ b0 e1 hs h1 fun H1 s1 m1 => ?_
    cases b0 with
    | true =>
      refine iteT ?_
      exact ra p Fs Z H1 σ S e1 A Q c0 e' (hs.move m1 s1) (by simpa using hf) fun v H2 B q => k v H2 B (EQ.after m1 s1 q)
    | false =>
      refine iteF ?_
      exact rb p Fs Z H1 σ S e1 A Q c0 e' (hs.move m1 s1) (by simpa using hf) fun v H2 B q => k v H2 B (EQ.after m1 s1 q)
end
end DL

set_option Elab.async false
set_option linter.all false
set_option maxRecDepth 100000
set_option maxHeartbeats 1000000
namespace DL
open PySem PySem.Spec PyProof.Rows L2

/-! ### statements -/
inductive Fl where
  | nx | bk | ct | ret (c : Cell)
abbrev Sx := Slots → Option Src → Option (Fl × Slots × Option Src)
def Own (S : Slots) (A : Nat → List Addr) (b : Addr) : Prop := ∃ (i : Nat) (t : T), S[i]? = some (some ⟨.own, t⟩) ∧ b ∈ A i
theorem Own.ins {S : Slots} {A : Nat → List Addr} {b : Addr} (h : Own S A b) : InS S A b := let ⟨i, t, h1, h2⟩ := h; ⟨i, _, h1, h2⟩
/-- what has changed: the source, owned things; new ones are there -/
structure MO (Fs : List Addr) (S : Slots) (A : Nat → List Addr) (H : Hp) (S' : Slots) (A' : Nat → List Addr) (H' : Hp) : Prop where
  fr : ∀ b o, H b = some o → b ∉ Fs → ¬ Own S A b → H' b = some o
  so : ∀ b, Own S' A' b → Own S A b ∨ H b = none
theorem MO.refl {Fs : List Addr} {S : Slots} {A : Nat → List Addr} {H : Hp} : MO Fs S A H S A H := ⟨fun _ _ e _ _ => e, fun _ h => .inl h⟩
section
variable {K : PySem.W.Frag} {p : Addr} {Fs : List Addr} {Z : Addr → Prop} {H H1 H2 : Hp} {σ : L2.St} {S S1 S2 : Slots} {e e1 e2 : Option Src} {A A1 A2 : Nat → List Addr}
theorem SR.own_there (h : SR K p Fs Z H σ S e A) {b : Addr} (o : InS S A b) : ∃ u, H b = some u := by
  obtain ⟨i, c, hc, m⟩ := o
  obtain ⟨_, v, _, q⟩ := h.slot i c hc
  exact q.there m
theorem SR.src_there (h : SR K p Fs Z H σ S e A) {b : Addr} (o : b ∈ Fs) : ∃ u, H b = some u := by
  have q := h.src.mut b o
  cases z : H b with
  | none => rw [z] at q; exact q.elim
  | some o => exact ⟨o, rfl⟩
theorem MO.none (m : MO Fs S A H S1 A1 H1) (h1 : SR K p Fs Z H1 σ S1 e1 A1) (h : ∀ b, Own S A b → ∃ u, H1 b = some u) {a : Addr} (z : H1 a = none) : H a = none := by
  cases y : H a with
  | none => rfl
  | some o =>
    by_cases f : a ∈ Fs
    · obtain ⟨u, hu⟩ := h1.src_there f
      rw [z] at hu; cases hu
    · by_cases w : Own S A a
      · obtain ⟨u, hu⟩ := h a w
        rw [z] at hu; cases hu
      · rw [m.fr a o y f w] at z; cases z
end

/-- nothing that stood is gone -/
def Th (H H' : Hp) : Prop := ∀ b o, H b = some o → ∃ o', H' b = some o'
theorem Th.refl (H : Hp) : Th H H := fun _ o e => ⟨o, e⟩
theorem Th.trans {H H1 H2 : Hp} (a : Th H H1) (b : Th H1 H2) : Th H H2 := fun c o e => let ⟨o', e'⟩ := a c o e; b c o' e'
theorem Th.none {H H' : Hp} (a : Th H H') {b : Addr} (z : H' b = none) : H b = none := by
  cases y : H b with
  | none => rfl
  | some o => obtain ⟨o', e⟩ := a b o y; rw [z] at e; cases e
theorem Th.of_same {H H' : Hp} (m : Same H H') : Th H H' := fun b o e => ⟨o, m b o e⟩
theorem Th.upd {H : Hp} {a : Addr} {o : HO} : Th H (upd H a o) := fun b u e => by
  by_cases z : b = a
  · subst z; exact ⟨o, upd_same⟩
  · exact ⟨u, by rw [upd_ne z]; exact e⟩
theorem Th.of_mv {p : Addr} {F : List Addr} {H H' : Hp} {e : Option Src} (m : Mv F H H') (s : SrcR p H' e F) : Th H H' := fun b o y => by
  by_cases f : b ∈ F
  · have q := s.mut b f
    cases z : H' b with
    | none => rw [z] at q; exact q.elim
    | some o => exact ⟨o, rfl⟩
  · exact ⟨o, m b o y f⟩

/-- the whole of what is known from one state to another -/
structure Go (Fs : List Addr) (pn : Bool) (σ : L2.St) (S : Slots) (A : Nat → List Addr) (H : Hp) (σ' : L2.St) (S' : Slots) (A' : Nat → List Addr) (H' : Hp) : Prop where
  mo : MO Fs S A H S' A' H'
  th : Th H H'
  pin : pn = true → σ'[0]? = σ[0]?
theorem Go.refl {Fs : List Addr} {pn : Bool} {σ : L2.St} {S : Slots} {A : Nat → List Addr} {H : Hp} : Go Fs pn σ S A H σ S A H := ⟨MO.refl, Th.refl H, fun _ => rfl⟩
theorem Go.trans {Fs : List Addr} {pn : Bool} {σ σ1 σ2 : L2.St} {S S1 S2 : Slots} {A A1 A2 : Nat → List Addr} {H H1 H2 : Hp} (a : Go Fs pn σ S A H σ1 S1 A1 H1) (b : Go Fs pn σ1 S1 A1 H1 σ2 S2 A2 H2) : Go Fs pn σ S A H σ2 S2 A2 H2 := by
  refine ⟨⟨fun c o y f w => ?_, fun c w => ?_⟩, a.th.trans b.th, fun hp => (b.pin hp).trans (a.pin hp)⟩
  · refine b.mo.fr c o (a.mo.fr c o y f w) f fun w1 => ?_
    rcases a.mo.so c w1 with z | z
    · exact w z
    · rw [y] at z; cases z
  · rcases b.mo.so c w with z | z
    · exact a.mo.so c z
    · exact .inr (a.th.none z)

/-- a returned value -/
structure RV (K : PySem.W.Frag) (p : Addr) (Fs : List Addr) (Z : Addr → Prop) (H : Hp) (S : Slots) (A : Nat → List Addr) (c : Cell) (v : V) (H' : Hp) (S' : Slots) (A' : Nat → List Addr) (B : List Addr) : Prop where
  vw : Vw K p H' v c.t B
  df : ∀ a ∈ B, a ∉ Fs
  own : c.k = .own → B.Nodup ∧ ∀ a ∈ B, (Own S A a ∨ H a = none) ∧ ¬ InS S' A' a
  sub : ∀ a ∈ B, Z a
/-- what is to be shown of a way's end -/
def EndS (K : PySem.W.Frag) (pn : Bool) (p : Addr) (Fs : List Addr) (Z : Addr → Prop) (H : Hp) (σ : L2.St) (S : Slots) (A : Nat → List Addr) (D : Ends) (S' : Slots) (e' : Option Src) : Fl → Prop
  | .nx => ∀ H' σ' A', SR K p Fs Z H' σ' S' e' A' → Go Fs pn σ S A H σ' S' A' H' → D.nx σ' H'
  | .bk => ∀ H' σ' A', SR K p Fs Z H' σ' S' e' A' → Go Fs pn σ S A H σ' S' A' H' → D.bk σ' H'
  | .ct => ∀ H' σ' A', SR K p Fs Z H' σ' S' e' A' → Go Fs pn σ S A H σ' S' A' H' → D.ct σ' H'
  | .ret c => ∀ H' σ' A' v B, SR K p Fs Z H' σ' S' e' A' → Go Fs pn σ S A H σ' S' A' H' → RV K p Fs Z H S A c v H' S' A' B → D.rt v H'
def RdS (K : PySem.W.Frag) (pn : Bool) (t : TS) (f : Sx) : Prop :=
  ∀ (p : Addr) (Fs : List Addr) (Z : Addr → Prop) (H : Hp) (σ : L2.St) (S : Slots) (e : Option Src) (A : Nat → List Addr) (D : Ends) (fl : Fl) (S' : Slots) (e' : Option Src),
    SR K p Fs Z H σ S e A → f S e = some (fl, S', e') → EndS K pn p Fs Z H σ S A D S' e' fl → t D σ H
structure DS (K : PySem.W.Frag) (X : Cx) (pn : Bool) (st : Stmt) (t : TS) (f : Sx) : Prop where
  ps : PS X st t
  rd : RdS K pn t f
structure DSs (K : PySem.W.Frag) (X : Cx) (pn : Bool) (st : List Stmt) (t : TS) (f : Sx) : Prop where
  ps : PSs X st t
  rd : RdS K pn t f

theorem RV.back {K : PySem.W.Frag} {pn : Bool} {p : Addr} {Fs : List Addr} {Z : Addr → Prop} {H H1 : Hp} {σ σ1 : L2.St} {S S1 : Slots} {A A1 : Nat → List Addr} {c : Cell} {v : V} {H' : Hp} {S' : Slots} {A' : Nat → List Addr} {B : List Addr} (g : Go Fs pn σ S A H σ1 S1 A1 H1) (r : RV K p Fs Z H1 S1 A1 c v H' S' A' B) : RV K p Fs Z H S A c v H' S' A' B :=
  ⟨r.vw, r.df, fun z => ⟨(r.own z).1, fun a m => ⟨by
    rcases ((r.own z).2 a m).1 with y | y
    · exact g.mo.so a y
    · exact .inr (g.th.none y), ((r.own z).2 a m).2⟩⟩, r.sub⟩
/-- an end seen from further ahead -/
theorem EndS.back {K : PySem.W.Frag} {pn : Bool} {p : Addr} {Fs : List Addr} {Z : Addr → Prop} {H H1 : Hp} {σ σ1 : L2.St} {S S1 : Slots} {A A1 : Nat → List Addr} {D : Ends} {S' : Slots} {e' : Option Src} {fl : Fl} (g : Go Fs pn σ S A H σ1 S1 A1 H1) (h : EndS K pn p Fs Z H σ S A D S' e' fl) : EndS K pn p Fs Z H1 σ1 S1 A1 D S' e' fl := by
  cases fl with
  | nx => exact fun H' σ' A' r g' => h H' σ' A' r (g.trans g')
  | bk => exact fun H' σ' A' r g' => h H' σ' A' r (g.trans g')
  | ct => exact fun H' σ' A' r g' => h H' σ' A' r (g.trans g')
  | ret c => exact fun H' σ' A' v B r g' q => h H' σ' A' v B r (g.trans g') (q.back g)

def sNx : Sx := fun S e => some (.nx, S, e)
def sSeq (f g : Sx) : Sx := fun S e => do
  let (fl, S1, e1) ← f S e
  match fl with
  | .nx => g S1 e1
  | fl => some (fl, S1, e1)
section
variable {K : PySem.W.Frag} {pn : Bool}
theorem rds_nx : RdS K pn tNext sNx := fun p Fs Z H σ S e A D fl S' e' h hf k => by
  have e1 := Option.some.inj hf
  cases e1
  exact k H σ A h Go.refl
theorem rds_seq {t u : TS} {f g : Sx} (hf : RdS K pn t f) (hg : RdS K pn u g) : RdS K pn (tSeq t u) (sSeq f g) := fun p Fs Z H σ S e A D fl S' e' h hs k => by
  unfold sSeq at hs
  cases h1 : f S e with
  | none => rw [h1] at hs; cases hs
  | some z =>
    obtain ⟨fl1, S1, e1⟩ := z
    rw [h1] at hs
    refine hf p Fs Z H σ S e A _ fl1 S1 e1 h h1 ?_
    cases fl1 with
    | nx => exact fun H1 σ1 A1 r1 g1 => hg p Fs Z H1 σ1 S1 e1 A1 D fl S' e' r1 (by simpa using hs) (k.back g1)
    | bk =>
      simp only [Option.bind_eq_bind, Option.bind_some, Option.some.injEq, Prod.mk.injEq] at hs
      obtain ⟨rfl, rfl, rfl⟩ := hs
      exact k
    | ct =>
      simp only [Option.bind_eq_bind, Option.bind_some, Option.some.injEq, Prod.mk.injEq] at hs
      obtain ⟨rfl, rfl, rfl⟩ := hs
      exact k
    | ret c =>
      simp only [Option.bind_eq_bind, Option.bind_some, Option.some.injEq, Prod.mk.injEq] at hs
      obtain ⟨rfl, rfl, rfl⟩ := hs
      exact k
end
section
variable {K : PySem.W.Frag} {X : Cx} {pn : Bool} {pos : Pos} {st : Stmt} {rest : List Stmt} {a : Expr} {ta : TE} {tt : TT} {ts us : TS}
theorem ds_nil : DSs K X pn [] tNext sNx := ⟨pss_nil, rds_nx⟩
theorem ds_cons {f g : Sx} (h1 : DS K X pn st ts f) (h2 : DSs K X pn rest us g) : DSs K X pn (st :: rest) (tSeq ts us) (sSeq f g) := ⟨pss_cons h1.ps h2.ps, rds_seq h1.rd h2.rd⟩
theorem ds_one {f : Sx} (h1 : DS K X pn st ts f) : DSs K X pn [st] ts f := ⟨pss_one h1.ps, h1.rd⟩
theorem ds_pass : DS K X pn (.Pass pos) tNext sNx := ⟨ps_pass, rds_nx⟩
theorem ds_doc {x j pos'} : DS K X pn (.Expr (.Constant (.str x) j pos) pos') tNext sNx := ⟨ps_doc, rds_nx⟩
def sBk : Sx := fun S e => some (.bk, S, e)
def sCt : Sx := fun S e => some (.ct, S, e)
theorem ds_break : DS K X pn (.Break pos) tBreak sBk := ⟨ps_break, fun p Fs Z H σ S e A D fl S' e' h hf k => by
  have e1 := Option.some.inj hf
  cases e1
  exact k H σ A h Go.refl⟩
theorem ds_continue : DS K X pn (.Continue pos) tCont sCt := ⟨ps_continue, fun p Fs Z H σ S e A D fl S' e' h hf k => by
  have e1 := Option.some.inj hf
  cases e1
  exact k H σ A h Go.refl⟩
/-- behind an expression alone -/
theorem Go.ex {K : PySem.W.Frag} {p : Addr} {Fs : List Addr} {Z : Addr → Prop} {H H' : Hp} {σ : L2.St} {S : Slots} {A : Nat → List Addr} {e e' : Option Src} (h : SR K p Fs Z H σ S e A) (m : Mv Fs H H') (s : SrcR p H' e' Fs) : Go Fs pn σ S A H σ S A H' :=
  ⟨⟨fun b o y f _ => m b o y f, fun _ w => .inl w⟩, Th.of_mv m s, fun _ => rfl⟩
/-- return e -/
def sRet (f : Ex) : Sx := fun S e => do
  let (c, e) ← f S e
  some (.ret c, S, e)
theorem ds_ret {f : Ex} (h : DX K X a ta f) : DS K X pn (.Return (some a) pos) (tRet ta) (sRet f) := by
  obtain ⟨pt, rt⟩ := h
  refine ⟨ps_ret pt, fun p Fs Z H σ S e A D fl S' e' hs hf k => ?_⟩
  unfold sRet at hf
  cases h1 : f S e with
  | none => rw [h1] at hf; cases hf
  | some z =>
    obtain ⟨c, e1⟩ := z
    rw [h1] at hf
    simp only [Option.bind_eq_bind, Option.bind_some, Option.some.injEq, Prod.mk.injEq] at hf
    obtain ⟨rfl, rfl, rfl⟩ := hf
    refine rt p Fs Z H σ S e A D.rt c e1 hs h1 fun v H1 B q => ?_
    exact k H1 σ A v B (hs.behind q) (Go.ex hs q.mv q.src) ⟨q.vw, q.df, fun z => ⟨(q.own z).1, fun a m => ⟨.inr ((q.own z).2 a m), fun y => by
      obtain ⟨u, hu⟩ := hs.own_there y
      rw [(q.own z).2 a m] at hu
      cases hu⟩⟩, q.sub⟩
/-- return x, x an owned slot: it is given away -/
def sRetN (i : Nat) : Sx := fun S e => match S[i]? with
  | some (some c) => some (.ret c, S.set i none, e)
  | _ => none
theorem SR.drop {K : PySem.W.Frag} {p : Addr} {Fs : List Addr} {Z : Addr → Prop} {H : Hp} {σ : L2.St} {S : Slots} {e : Option Src} {A : Nat → List Addr} (h : SR K p Fs Z H σ S e A) (i : Nat) : SR K p Fs Z H σ (S.set i none) e A := by
  have g : ∀ (j : Nat) (c : Cell), (S.set i none)[j]? = some (some c) → S[j]? = some (some c) ∧ j ≠ i := fun j c e => by
    by_cases z : j = i
    · subst z
      rw [List.getElem?_set_self'] at e
      cases y : S[j]? <;> rw [y] at e <;> simp at e
    · rw [List.getElem?_set_ne (fun q => z q.symm)] at e
      exact ⟨e, z⟩
  exact ⟨by rw [List.length_set]; exact h.len, fun j c e => h.slot j c (g j c e).1, fun j t e => h.nd j t (g j _ e).1, fun j l t c e1 e2 ne => h.dj j l t c (g j _ e1).1 (g l _ e2).1 ne, h.src, fun j c e => h.ds j c (g j c e).1, fun j c e => h.z j c (g j c e).1, h.zn⟩
theorem Own.drop {S : Slots} {A : Nat → List Addr} {i : Nat} {b : Addr} (h : Own (S.set i none) A b) : Own S A b := by
  obtain ⟨j, t, h1, h2⟩ := h
  by_cases z : j = i
  · subst z
    rw [List.getElem?_set_self'] at h1
    cases y : S[j]? <;> rw [y] at h1 <;> simp at h1
  · rw [List.getElem?_set_ne (fun q => z q.symm)] at h1
    exact ⟨j, t, h1, h2⟩
theorem InS.drop {S : Slots} {A : Nat → List Addr} {i : Nat} {b : Addr} (h : InS (S.set i none) A b) : ∃ j c, S[j]? = some (some c) ∧ b ∈ A j ∧ j ≠ i := by
  obtain ⟨j, t, h1, h2⟩ := h
  by_cases z : j = i
  · subst z
    rw [List.getElem?_set_self'] at h1
    cases y : S[j]? <;> rw [y] at h1 <;> simp at h1
  · rw [List.getElem?_set_ne (fun q => z q.symm)] at h1
    exact ⟨j, t, h1, h2, z⟩
theorem ds_retN (i : Nat) {x : Str} {pos' : Pos} (hN : X.N[i]? = some x := by rfl) (hv : Vis X.env.scope x := by first | exact Or.inl rfl | exact Or.inr (Or.inl rfl) | exact Or.inr (Or.inr rfl)) (hd : (x == ("__debug__" : Str)) = false := by decide)
    (hcd : (x == ("__classdict__" : Str)) = false := by decide) : DS K X pn (.Return (some (.Name x pos')) pos) (tRet (tVar i)) (sRetN i) := by
  refine ⟨ps_ret (pe_var hN hv hd hcd), fun p Fs Z H σ S e A D fl S' e' hs hf k => ?_⟩
  unfold sRetN at hf
  split at hf
  · rename_i c hc
    have e1 := Option.some.inj hf
    cases e1
    obtain ⟨kv, v, h1, h2⟩ := hs.slot i c hc
    refine ⟨v, h1, k H σ A v (A i) (hs.drop i) ⟨⟨fun b o y f _ => y, fun b w => .inl w.drop⟩, Th.refl H, fun _ => rfl⟩ ⟨h2, hs.ds i c hc, fun z => ?_, hs.z i c hc⟩⟩
    · have ec : c = ⟨.own, c.t⟩ := by
        obtain ⟨kk, tt⟩ := c
        have : kk = .own := z
        subst this
        rfl
      have hc' : S[i]? = some (some ⟨.own, c.t⟩) := by rw [← ec]; exact hc
      refine ⟨hs.nd i c.t hc', fun a m => ⟨.inl ⟨i, c.t, hc', m⟩, fun w => ?_⟩⟩
      obtain ⟨j, c', z1, z2, z3⟩ := w.drop
      exact hs.dj i j c.t c' hc' z1 (fun q => z3 q.symm) a m z2
  · cases hf
def sRetNone : Sx := fun S e => some (.ret ⟨.shr, .non⟩, S, e)
theorem ds_retNone : DS K X pn (.Return none pos) tRetN sRetNone := ⟨ps_retN, fun p Fs Z H σ S e A D fl S' e' h hf k => by
  have e1 := Option.some.inj hf
  cases e1
  exact k H σ A .non [] h Go.refl ⟨.non, (fun a m => absurd m List.not_mem_nil), (fun z => nomatch z), fun a m => absurd m List.not_mem_nil⟩⟩
/-- an expression whose value is dropped -/
def sDrop (f : Ex) : Sx := fun S e => do
  let (_, e) ← f S e
  some (.nx, S, e)
theorem ds_expr {f : Ex} (h : DX K X a ta f) (hs : swapsWith a none pos.line X.env = pure false := by rfl) : DS K X pn (.Expr a pos) (tDrop ta) (sDrop f) := by
  obtain ⟨pt, rt⟩ := h
  refine ⟨ps_expr pt hs, fun p Fs Z H σ S e A D fl S' e' hs hf k => ?_⟩
  unfold sDrop at hf
  cases h1 : f S e with
  | none => rw [h1] at hf; cases hf
  | some z =>
    obtain ⟨c, e1⟩ := z
    rw [h1] at hf
    simp only [Option.bind_eq_bind, Option.bind_some, Option.some.injEq, Prod.mk.injEq] at hf
    obtain ⟨rfl, rfl, rfl⟩ := hf
    exact rt p Fs Z H σ S e A _ c e1 hs h1 fun v H1 B q => k H1 σ A (hs.behind q) (Go.ex hs q.mv q.src)
/-- if -/
def sIf (c : Bx) (f g : Sx) : Sx := fun S e => do
  let (b, e) ← c S e
  if b then f S e else g S e
theorem ds_if {c : Expr} {b1 b2 : List Stmt} {d : Bx} {f g : Sx} (hc : DT K X c tt d) (h1 : DSs K X pn b1 ts f) (h2 : DSs K X pn b2 us g) : DS K X pn (.If c b1 b2 pos) (tIfS tt ts us) (sIf d f g) := by
  obtain ⟨pc, rc⟩ := hc
  obtain ⟨pa, ra⟩ := h1
  obtain ⟨pb, rb⟩ := h2
  refine ⟨ps_if pc pa pb, fun p Fs Z H σ S e A D fl S' e' hs hf k => ?_⟩
  unfold sIf at hf
  cases h1 : d S e with
  | none => rw [h1] at hf; cases hf
  | some z =>
    obtain ⟨b0, e1⟩ := z
    rw [h1] at hf
    simp only [Option.bind_eq_bind, Option.bind_some] at hf
    refine rc p Fs Z H σ S e A _ b0 e1 hs h1 fun H1 s1 m1 => ?_
    have g1 : Go Fs pn σ S A H σ S A H1 := Go.ex hs m1 s1
    cases b0 with
    | true =>
      refine iteT ?_
      exact ra p Fs Z H1 σ S e1 A D fl S' e' (hs.move m1 s1) (by simpa using hf) (k.back g1)
    | false =>
      refine iteF ?_
      exact rb p Fs Z H1 σ S e1 A D fl S' e' (hs.move m1 s1) (by simpa using hf) (k.back g1)

/-! ### stores to names -/
/-- may a value be kept: flat ones, new ones, shared ones -/
def keep (c : Cell) : Option Cell := if c.t.flat then some ⟨.shr, c.t⟩ else match c.k with
  | .own => some ⟨.own, c.t⟩
  | .shr => some ⟨.shr, c.t⟩
  | .vw => none
def putA (A : Nat → List Addr) (i : Nat) (B : List Addr) : Nat → List Addr := fun j => if j = i then B else A j
theorem putA_same {A : Nat → List Addr} {i : Nat} {B : List Addr} : putA A i B i = B := if_pos rfl
theorem putA_ne {A : Nat → List Addr} {i j : Nat} {B : List Addr} (h : j ≠ i) : putA A i B j = A j := if_neg h
theorem set_get {S : Slots} {i j : Nat} {o : Option Cell} {c : Cell} (h : (S.set i o)[j]? = some (some c)) : (j = i ∧ o = some c) ∨ (j ≠ i ∧ S[j]? = some (some c)) := by
  by_cases z : j = i
  · subst z
    rw [List.getElem?_set_self'] at h
    cases y : S[j]? with
    | none => rw [y] at h; simp at h
    | some w => rw [y] at h; simp at h; exact .inl ⟨rfl, h⟩
  · rw [List.getElem?_set_ne (fun q => z q.symm)] at h
    exact .inr ⟨z, h⟩
/-- a slot is filled with a value that may be kept -/
theorem SR.put {K : PySem.W.Frag} {p : Addr} {Fs : List Addr} {Z : Addr → Prop} {H H1 : Hp} {σ : L2.St} {S : Slots} {A : Nat → List Addr} {c d : Cell} {e e1 : Option Src} {v : V} {B : List Addr} (h : SR K p Fs Z H σ S e A) (q : EQ K p Fs Z H S A c e1 v H1 B) (hk : keep c = some d) (i : Nat) :
    SR K p Fs Z H1 (σ.set i (some v)) (S.set i (some d)) e1 (putA A i B) ∧ ((pn = true → i ≠ 0) → Go Fs pn σ S A H (σ.set i (some v)) (S.set i (some d)) (putA A i B) H1) := by
  have h1 := h.behind q
  have hd : d.t = c.t ∧ d.k ≠ .vw ∧ (d.k = .own → c.k = .own) ∧ (c.k = .vw → B = []) := by
    unfold keep at hk
    by_cases f : c.t.flat = true
    · rw [if_pos f] at hk
      have := Option.some.inj hk
      subst this
      exact ⟨rfl, (by intro z; cases z), (fun z => nomatch z), fun _ => q.vw.flat f⟩
    · rw [if_neg f] at hk
      cases z : c.k with
      | own => rw [z] at hk; have := Option.some.inj hk; subst this; exact ⟨rfl, (by intro z; cases z), (fun _ => rfl), fun w => by cases w⟩
      | shr => rw [z] at hk; have := Option.some.inj hk; subst this; exact ⟨rfl, (by intro z; cases z), (fun w => nomatch w), fun w => by cases w⟩
      | vw => rw [z] at hk; cases hk
  obtain ⟨d1, d2, d3, d4⟩ := hd
  -- an owned slot's objects are not the value's
  have ap : ∀ a ∈ B, ∀ (j : Nat) (t : T), S[j]? = some (some ⟨.own, t⟩) → a ∉ A j := fun a m j t hj => by
    by_cases z : c.k = .vw
    · rw [d4 z] at m
      exact absurd m List.not_mem_nil
    · exact EQ.apart h q z a m j t hj
  refine ⟨⟨by rw [List.length_set, List.length_set]; exact h.len, fun j c' hj => ?_, fun j t hj => ?_, fun j l t c' hj hl ne a m => ?_, q.src, fun j c' hj a m => ?_, fun j c' hj a m => ?_, h1.zn⟩, fun hp => ⟨⟨fun b o y f _ => q.mv b o y f, fun b w => ?_⟩, Th.of_mv q.mv q.src, fun z => ?_⟩⟩
  · rcases set_get hj with ⟨rfl, z⟩ | ⟨ne, z⟩
    · have z' := Option.some.inj z
      subst z'
      have hlt : j < σ.length := by
        rw [h.len]
        obtain ⟨w, _⟩ := List.getElem?_eq_some_iff.mp hj
        rw [List.length_set] at w
        exact w
      refine ⟨d2, v, List.getElem?_set_self hlt, ?_⟩
      rw [putA_same, d1]
      exact q.vw
    · obtain ⟨k1, u, u1, u2⟩ := h1.slot j c' z
      refine ⟨k1, u, by rw [List.getElem?_set_ne (fun y => ne y.symm)]; exact u1, ?_⟩
      rw [putA_ne ne]
      exact u2
  · rcases set_get hj with ⟨rfl, z⟩ | ⟨ne, z⟩
    · have z' := Option.some.inj z
      rw [putA_same]
      exact (q.own (d3 (by rw [z']))).1
    · rw [putA_ne ne]
      exact h.nd j t z
  · rcases set_get hj with ⟨rfl, z⟩ | ⟨nj, z⟩
    · have z' := Option.some.inj z
      rw [putA_same] at m
      rcases set_get hl with ⟨rfl, y⟩ | ⟨nl, y⟩
      · exact absurd rfl ne
      · rw [putA_ne nl]
        intro w
        obtain ⟨u, hu⟩ := h.own_there ⟨l, c', y, w⟩
        rw [(q.own (d3 (by rw [z']))).2 a m] at hu
        cases hu
    · rw [putA_ne nj] at m
      rcases set_get hl with ⟨rfl, y⟩ | ⟨nl, y⟩
      · rw [putA_same]
        intro w
        exact ap a w j t z m
      · rw [putA_ne nl]
        exact h.dj j l t c' z y ne a m
  · rcases set_get hj with ⟨rfl, z⟩ | ⟨ne, z⟩
    · rw [putA_same] at m
      exact q.df a m
    · rw [putA_ne ne] at m
      exact h.ds j c' z a m
  · rcases set_get hj with ⟨rfl, z⟩ | ⟨ne, z⟩
    · rw [putA_same] at m
      exact q.sub a m
    · rw [putA_ne ne] at m
      exact h.z j c' z a m
  · obtain ⟨j, t, hj, m⟩ := w
    rcases set_get hj with ⟨rfl, z⟩ | ⟨ne, z⟩
    · have z' := Option.some.inj z
      rw [putA_same] at m
      exact .inr ((q.own (d3 (by rw [z']))).2 b m)
    · rw [putA_ne ne] at m
      exact .inl ⟨j, t, z, m⟩
  · rw [List.getElem?_set_ne (hp z)]
def sSet (i : Nat) (f : Ex) : Sx := fun S e => do
  let (c, e) ← f S e
  let d ← keep c
  some (.nx, S.set i (some d), e)
theorem rds_set {K : PySem.W.Frag} {t : TE} {f : Ex} (i : Nat) (hp : pn = true → i ≠ 0) (rt : Rd K t f) : RdS K pn (tAsg t (gName i)) (sSet i f) := fun p Fs Z H σ S e A D fl S' e' hs hf k => by
  unfold sSet at hf
  cases h1 : f S e with
  | none => rw [h1] at hf; cases hf
  | some z =>
    obtain ⟨c, e1⟩ := z
    cases h2 : keep c with
    | none => simp [h1, h2] at hf
    | some d =>
      simp only [h1, h2, Option.bind_eq_bind, Option.bind_some, Option.some.injEq, Prod.mk.injEq] at hf
      obtain ⟨rfl, rfl, rfl⟩ := hf
      refine rt p Fs Z H σ S e A _ c e1 hs h1 fun v H1 B q => ?_
      obtain ⟨r, g⟩ := SR.put (pn := pn) hs q h2 i
      exact k H1 _ _ r (g hp)
theorem ds_set (i : Nat) {x : Str} {pos' : Pos} {f : Ex} (h : DX K X a ta f) (hp : pn = true → i ≠ 0 := by decide) (hN : X.N.Nodup := by assumption) (hi : X.N[i]? = some x := by rfl) (hx : Loc X.env.scope x := by first | exact Or.inl rfl | exact Or.inr rfl) (hs : swapsWith a (some (.Name x pos')) pos.line X.env = pure false := by rfl) (hf : X.fn x = true ∨ X.env.scope.names.lookup x = some .local := by first | exact .inl rfl | exact .inr rfl | assumption) :
    DS K X pn (.Assign [.Name x pos'] a pos) (tAsg ta (gName i)) (sSet i f) := by
  obtain ⟨pt, rt⟩ := h
  exact ⟨ps_set hN hi hx pt hs hf, rds_set i hp rt⟩
end
end DL

set_option Elab.async false
set_option linter.all false
set_option maxRecDepth 100000
set_option maxHeartbeats 1000000
namespace DL
open PySem PySem.Spec PyProof.Rows L2

/-! ### targets -/
/-- what does not change stays -/
def Im (H H' : Hp) : Prop := ∀ b o, H b = some o → ¬ MutK (some o) → H' b = some o
theorem Im.refl (H : Hp) : Im H H := fun _ _ e _ => e
theorem Im.trans {H H1 H2 : Hp} (a : Im H H1) (b : Im H1 H2) : Im H H2 := fun c o e n => b c o (a c o e n) n
abbrev Gx := Cell → Slots → Option Src → Option (Slots × Option Src)
abbrev Gxs := List T → Slots → Option Src → Option (Slots × Option Src)
/-- what a store to slots ws tells; q: whether it leaves all objects as they are -/
structure Sto (q : Bool) (ws : List Nat) (σ : L2.St) (S : Slots) (A : Nat → List Addr) (H1 : Hp) (σ' : L2.St) (S' : Slots) (A' : Nat → List Addr) (H' : Hp) : Prop where
  len : σ'.length = σ.length
  out : ∀ j, j ∉ ws → σ'[j]? = σ[j]? ∧ S'[j]? = S[j]? ∧ A' j = A j
  im : Im H1 H'
  quiet : q = true → Same H1 H'
theorem Sto.refl {q : Bool} {ws : List Nat} {σ : L2.St} {S : Slots} {A : Nat → List Addr} {H : Hp} : Sto q ws σ S A H σ S A H := ⟨rfl, (fun _ _ => ⟨rfl, rfl, rfl⟩), Im.refl _, fun _ => Same.refl _⟩
theorem Sto.trans {q : Bool} {ws vs : List Nat} {σ σ1 σ2 : L2.St} {S S1 S2 : Slots} {A A1 A2 : Nat → List Addr} {H H1 H2 : Hp} (a : Sto q ws σ S A H σ1 S1 A1 H1) (b : Sto q vs σ1 S1 A1 H1 σ2 S2 A2 H2) : Sto q (ws ++ vs) σ S A H σ2 S2 A2 H2 :=
  ⟨b.len.trans a.len, fun j h => by
    obtain ⟨b1, b2, b3⟩ := b.out j fun m => h (List.mem_append_right _ m)
    obtain ⟨a1, a2, a3⟩ := a.out j fun m => h (List.mem_append_left _ m)
    exact ⟨b1.trans a1, b2.trans a2, b3.trans a3⟩, a.im.trans b.im, fun z => (a.quiet z).trans (b.quiet z)⟩
def RdG (K : PySem.W.Frag) (pn q : Bool) (ws : List Nat) (G : TG) (g : Gx) : Prop :=
  ∀ (p : Addr) (Fs : List Addr) (Z : Addr → Prop) (H : Hp) (σ : L2.St) (S : Slots) (e : Option Src) (A : Nat → List Addr) (c : Cell) (e1 : Option Src) (v : V) (H1 : Hp) (B : List Addr) (Q : L2.St → Hp → Prop) (S' : Slots) (e' : Option Src),
    SR K p Fs Z H σ S e A → EQ K p Fs Z H S A c e1 v H1 B → g c S e1 = some (S', e') →
    (∀ H' σ' A', SR K p Fs Z H' σ' S' e' A' → Go Fs pn σ S A H σ' S' A' H' → Sto q ws σ S A H1 σ' S' A' H' → Q σ' H') → G v σ H1 Q
structure DG (K : PySem.W.Frag) (X : Cx) (pn q : Bool) (tg : Expr) (ws : List Nat) (G : TG) (g : Gx) : Prop where
  pg : PG X tg G
  rd : RdG K pn q ws G g
def RdGs (K : PySem.W.Frag) (pn q : Bool) (ws : List Nat) (G : TGs) (g : Gxs) : Prop :=
  ∀ (p : Addr) (Fs : List Addr) (Z : Addr → Prop) (H : Hp) (σ : L2.St) (S : Slots) (e : Option Src) (A : Nat → List Addr) (ts : List T) (e1 : Option Src) (vs : List V) (H1 : Hp) (Q : L2.St → Hp → Prop) (S' : Slots) (e' : Option Src),
    SR K p Fs Z H σ S e A → VwL K p H1 vs ts [] → SrcR p H1 e1 Fs → Mv Fs H H1 → g ts S e1 = some (S', e') →
    (∀ H' σ' A', SR K p Fs Z H' σ' S' e' A' → Go Fs pn σ S A H σ' S' A' H' → Sto q ws σ S A H1 σ' S' A' H' → Q σ' H') → G vs σ H1 Q
structure DGs (K : PySem.W.Frag) (X : Cx) (pn q : Bool) (tgs : List Expr) (ws : List Nat) (G : TGs) (g : Gxs) : Prop where
  pg : PGs X tgs G
  rd : RdGs K pn q ws G g
section
variable {K : PySem.W.Frag} {X : Cx} {pn q : Bool} {pos : Pos} {a : Expr} {ws vs : List Nat}
def gN (i : Nat) : Gx := fun c S e => do
  let d ← keep c
  some (S.set i (some d), e)
theorem rdg_name (i : Nat) (hp : pn = true → i ≠ 0) : RdG K pn q [i] (gName i) (gN i) := fun p Fs Z H σ S e A c e1 v H1 B Q S' e' h eq hg k => by
  unfold gN at hg
  cases h2 : keep c with
  | none => rw [h2] at hg; cases hg
  | some d =>
    simp only [h2, Option.bind_eq_bind, Option.bind_some, Option.some.injEq, Prod.mk.injEq] at hg
    obtain ⟨rfl, rfl⟩ := hg
    obtain ⟨r, g⟩ := SR.put (pn := pn) h eq h2 i
    refine k H1 _ _ r (g hp) ⟨List.length_set, fun j hj => ?_, Im.refl _, fun _ => Same.refl _⟩
    have nj : i ≠ j := fun z => hj (by rw [z]; exact List.mem_singleton.mpr rfl)
    exact ⟨List.getElem?_set_ne nj, List.getElem?_set_ne nj, putA_ne (fun z => nj z.symm)⟩
theorem dg_name (i : Nat) {x : Str} (hp : pn = true → i ≠ 0 := by decide) (hN : X.N.Nodup := by assumption) (hi : X.N[i]? = some x := by rfl) (hx : Loc X.env.scope x := by first | exact Or.inl rfl | exact Or.inr rfl) (hf : X.fn x = true ∨ X.env.scope.names.lookup x = some .local := by first | exact .inl rfl | exact .inr rfl | assumption) :
    DG K X pn q (.Name x pos) [i] (gName i) (gN i) := ⟨pg_name hN hi hx hf, rdg_name i hp⟩
def gsNil : Gxs := fun ts S e => match ts with | [] => some (S, e) | _ => none
def gsCons (g : Gx) (gs : Gxs) : Gxs := fun ts S e => match ts with
  | t :: ts => if t.flat then do
      let (S1, e1) ← g ⟨.shr, t⟩ S e
      gs ts S1 e1
    else none
  | _ => none
theorem rdgs_nil : RdGs K pn q [] gNil gsNil := fun p Fs Z H σ S e A ts e1 vs H1 Q S' e' h hv s m hg k => by
  cases ts with
  | nil =>
    have ev : vs = [] := by
      have := hv.length
      exact List.eq_nil_of_length_eq_zero this
    have e1' := Option.some.inj hg
    cases e1'
    exact ⟨ev, k H1 σ A (h.move m s) (Go.ex h m s) Sto.refl⟩
  | cons _ _ => cases hg
theorem dgs_nil : DGs K X pn q [] [] gNil gsNil := ⟨pgs_nil, rdgs_nil⟩
theorem vwl_cons_nil {p : Addr} {H : Hp} {vs : List V} {t : T} {ts : List T} {A : List Addr} (h : VwL K p H vs (t :: ts) A) (e : A = []) : ∃ v us, vs = v :: us ∧ Vw K p H v t [] ∧ VwL K p H us ts [] := by
  cases h with
  | cons h1 h2 =>
    obtain ⟨e1, e2⟩ := List.append_eq_nil_iff.mp e
    subst e1 e2
    exact ⟨_, _, rfl, h1, h2⟩
theorem rdgs_cons {G : TG} {Gs : TGs} {g : Gx} {gs : Gxs} (h1 : RdG K pn q ws G g) (h2 : RdGs K pn q vs Gs gs) : RdGs K pn q (ws ++ vs) (gCons G Gs) (gsCons g gs) := fun p Fs Z H σ S e A ts e1 us H1 Q S' e' h hv s m hg k => by
  cases ts with
  | nil => cases hg
  | cons t ts =>
    obtain ⟨v, us', rfl, v1, v2⟩ := vwl_cons_nil hv rfl
    unfold gsCons at hg
    simp only at hg
    by_cases f : t.flat = true
    · rw [if_pos f] at hg
      cases q1 : g ⟨.shr, t⟩ S e1 with
      | none => rw [q1] at hg; cases hg
      | some z =>
        obtain ⟨S1, e2⟩ := z
        rw [q1] at hg
        refine ⟨v, us', rfl, ?_⟩
        refine h1 p Fs Z H σ S e A ⟨.shr, t⟩ e1 v H1 [] _ S1 e2 h (EQ.flat v1 s m) q1 fun H2 σ2 A2 r2 g2 t2 => ?_
        refine h2 p Fs Z H2 σ2 S1 e2 A2 ts e2 us' H2 Q S' e' r2 (v2.stay t2.im fun a o z => absurd z List.not_mem_nil) r2.src (Mv.refl _ _) (by simpa using hg) fun H3 σ3 A3 r3 g3 t3 => ?_
        exact k H3 σ3 A3 r3 (g2.trans g3) (t2.trans t3)
    · rw [if_neg f] at hg
      cases hg
theorem dgs_cons {es : List Expr} {G : TG} {Gs : TGs} {g : Gx} {gs : Gxs} (h1 : DG K X pn q a ws G g) (h2 : DGs K X pn q es vs Gs gs) (hs : (assignEach (a :: es) X.env).map (·.2) = assign a X.env :: (assignEach es X.env).map (·.2) := by rfl) : DGs K X pn q (a :: es) (ws ++ vs) (gCons G Gs) (gsCons g gs) :=
  ⟨pgs_cons h1.pg h2.pg hs, rdgs_cons h1.rd h2.rd⟩
def gT (n : Nat) (gs : Gxs) : Gx := fun c S e => match c.t with
  | .tup ts => if ts.length = n then gs ts S e else none
  | _ => none
theorem rdg_tup {n : Nat} {Gs : TGs} {gs : Gxs} (h1 : RdGs K pn q ws Gs gs) : RdG K pn q ws (L2.gTup K n Gs) (gT n gs) := fun p Fs Z H σ S e A c e1 v H1 B Q S' e' h q hg k => by
  obtain ⟨kc, tc⟩ := c
  cases tc with
  | tup us =>
    unfold gT at hg
    simp only at hg
    split at hg
    · rename_i hn
      have hv := q.vw
      cases hv with
      | tup hs hl =>
        exact ⟨_, _, rfl, hs.t, by rw [hl.length]; exact hn, h1 p Fs Z H σ S e A us e1 _ H1 Q S' e' h hl q.src q.mv hg k⟩
    · cases hg
  | _ => cases hg
theorem dg_tup {es : List Expr} {k n : Nat} {Gs : TGs} {gs : Gxs} (h : DGs K X pn q es ws Gs gs) (hK : X.K = K := by rfl) (hc : X.calm = true := by rfl) (hn : (assignEach es X.env).length = n := by rfl) (hst : (assignEach es X.env).findIdx? (·.1) = none := by rfl) : DG K X pn q (.Tuple es k pos) ws (L2.gTup K n Gs) (gT n gs) := by
  subst hK
  exact ⟨pg_tup hc h.pg hn hst, rdg_tup h.rd⟩
/-- target = e -/
def sAsg (f : Ex) (g : Gx) : Sx := fun S e => do
  let (c, e) ← f S e
  let (S, e) ← g c S e
  some (.nx, S, e)
theorem rds_asg {t : TE} {G : TG} {f : Ex} {g : Gx} (hf : Rd K t f) (hg : RdG K pn q ws G g) : RdS K pn (tAsg t G) (sAsg f g) := fun p Fs Z H σ S e A D fl S' e' hs hx k => by
  unfold sAsg at hx
  cases h1 : f S e with
  | none => rw [h1] at hx; cases hx
  | some z =>
    obtain ⟨c, e1⟩ := z
    cases h2 : g c S e1 with
    | none => simp [h1, h2] at hx
    | some z =>
      obtain ⟨S2, e2⟩ := z
      simp only [h1, h2, Option.bind_eq_bind, Option.bind_some, Option.some.injEq, Prod.mk.injEq] at hx
      obtain ⟨rfl, rfl, rfl⟩ := hx
      refine hf p Fs Z H σ S e A _ c e1 hs h1 fun v H1 B q => ?_
      exact hg p Fs Z H σ S e A c e1 v H1 B _ S2 e2 hs q h2 fun H2 σ2 A2 r2 g2 _ => k H2 σ2 A2 r2 g2
theorem ds_asg {tg : Expr} {ta : TE} {G : TG} {f : Ex} {g : Gx} (h : DX K X a ta f) (hg : DG K X pn q tg ws G g) (hs : swapsWithSole [tg] a pos.line X.env = pure false := by rfl) (hw : swappedStores [tg] a X.env = pure none := by rfl)
    (h1 : (assignEach [tg] X.env).map (·.2) = [assign tg X.env] := by rfl) : DS K X pn (.Assign [tg] a pos) (tAsg ta G) (sAsg f g) := ⟨ps_asg h.pe hg.pg hs hw h1, rds_asg h.rd hg.rd⟩
/-- a, b = x, y -/
def sPar (i j : Nat) (f g : Ex) : Sx := fun S e => do
  let (c, e) ← f S e
  let (d, e) ← g S e
  let c' ← keep c
  let d' ← keep d
  if (c.t.flat || decide (c.k = .own)) && (d.t.flat || decide (d.k = .own)) || c.t.flat || d.t.flat then some (.nx, (S.set i (some c')).set j (some d'), e) else none

/-! ### what is walked -/
def Stay (B : List Addr) (H H' : Hp) : Prop := Im H H' ∧ ∀ a o, a ∈ B → H a = some o → H' a = some o
structure ItOk (K : PySem.W.Frag) (p : Addr) (J : It) (H1 : Hp) (its : List T) (B : List Addr) : Prop where
  go : ∀ (i : Nat) (t : T) (H : Hp), its[i]? = some t → Stay B H1 H → J.go i H
  yl : ∀ (i : Nat) (t : T) (H : Hp) (x : V) (H' : Hp), its[i]? = some t → Stay B H1 H → J.yld i H x H' → Same H H' ∧ ∃ B', Vw K p H' x t B' ∧ ∀ a ∈ B', a ∈ B
  st : ∀ (H : Hp), Stay B H1 H → J.stop its.length H
abbrev Ix := Slots → Option Src → Option (List T × Option Src)
def RdI (K : PySem.W.Frag) (t : TI) (f : Ix) : Prop :=
  ∀ (p : Addr) (Fs : List Addr) (Z : Addr → Prop) (H : Hp) (σ : L2.St) (S : Slots) (e : Option Src) (A : Nat → List Addr) (R : It → Hp → Prop) (its : List T) (e' : Option Src),
    SR K p Fs Z H σ S e A → f S e = some (its, e') →
    (∀ J H' B, SrcR p H' e' Fs → Mv Fs H H' → (∀ a ∈ B, a ∉ Fs ∧ ¬ Own S A a ∧ Z a ∧ MutK (H' a)) → ItOk K p J H' its B → R J H') → t σ H R
structure DI (K : PySem.W.Frag) (X : Cx) (tg iter : Expr) (t : TI) (f : Ix) : Prop where
  pi : PI X tg iter t
  rd : RdI K t f
theorem pi_or {tg iter : Expr} {t u : TI} (h1 : PI X tg iter t) (h2 : PI X tg iter u) : PI X tg iter (fun σ H R => t σ H R ∨ u σ H R) := ⟨fun pins s σ H R I h => h.elim (h1.run pins s σ H R I) (h2.run pins s σ H R I)⟩
/-- a list or a tuple that is not one's own to change -/
def iSeq (f : Ex) : Ix := fun S e => do
  let (c, e) ← f S e
  match c.t with
  | .tup ts => some (ts, e)
  | .lst ts => if c.k = .vw then none else some (ts, e)
  | _ => none
def tSeqI (K : PySem.W.Frag) (t : TE) : TI := fun σ H R => iTup K t σ H R ∨ iList K t σ H R
theorem seq_list {p : Addr} {H1 H : Hp} {a : Addr} {ts : List T} {B : List Addr} (h : Vw K p H1 (.ref a) (.lst ts) B) (s : Stay B H1 H) : ∃ xs B', SqL K H a xs ∧ VwL K p H xs ts B' ∧ ∀ b ∈ B', b ∈ B := by
  have h' : Vw K p H (.ref a) (.lst ts) B := h.stay s.1 s.2
  cases h' with
  | lst r q => exact ⟨_, _, SqL.of r, q, fun b m => List.mem_cons_of_mem _ m⟩
theorem seq_tup {p : Addr} {H1 H : Hp} {a : Addr} {ts : List T} {B : List Addr} (h : Vw K p H1 (.ref a) (.tup ts) B) (s : Stay B H1 H) : ∃ xs, SqT K H a xs ∧ VwL K p H xs ts [] := by
  have h' : Vw K p H (.ref a) (.tup ts) B := h.stay s.1 s.2
  cases h' with
  | tup r q => exact ⟨_, r.t, q⟩
theorem vw_ref_lst {p : Addr} {H1 : Hp} {v : V} {ts : List T} {B : List Addr} (h : Vw K p H1 v (.lst ts) B) : ∃ a, v = .ref a := by
  cases h with
  | lst _ _ => exact ⟨_, rfl⟩
theorem vw_ref_tup {p : Addr} {H1 : Hp} {v : V} {ts : List T} {B : List Addr} (h : Vw K p H1 v (.tup ts) B) : ∃ a, v = .ref a := by
  cases h with
  | tup _ _ => exact ⟨_, rfl⟩
theorem it_list {p : Addr} {H1 : Hp} {a : Addr} {ts : List T} {B : List Addr} (h : Vw K p H1 (.ref a) (.lst ts) B) : ItOk K p (Itl K a) H1 ts B where
  go := fun i t H ht s => by
    obtain ⟨xs, B', h1, h2, _⟩ := seq_list h s
    obtain ⟨v, C, e, _, _⟩ := h2.get ht
    exact ⟨xs, v, h1, e⟩
  yl := fun i t H x H' ht s y => by
    obtain ⟨rfl, y⟩ := y
    obtain ⟨xs, B', h1, h2, h3⟩ := seq_list h s
    obtain ⟨v, C, e, q, m⟩ := h2.get ht
    have ex : x = v := Option.some.inj ((y xs h1).symm.trans e)
    subst ex
    exact ⟨Same.refl _, C, q, fun b z => h3 b (m b z)⟩
  st := fun H s => by
    obtain ⟨xs, B', h1, h2, _⟩ := seq_list h s
    exact ⟨xs, h1, by rw [h2.length]; exact Nat.le_refl _⟩
theorem it_tup {p : Addr} {H1 : Hp} {a : Addr} {ts : List T} {B : List Addr} (h : Vw K p H1 (.ref a) (.tup ts) B) : ItOk K p (Itt K a) H1 ts B where
  go := fun i t H ht s => by
    obtain ⟨xs, h1, h2⟩ := seq_tup h s
    obtain ⟨v, C, e, _, _⟩ := h2.get ht
    exact ⟨xs, v, h1, e⟩
  yl := fun i t H x H' ht s y => by
    obtain ⟨rfl, y⟩ := y
    obtain ⟨xs, h1, h2⟩ := seq_tup h s
    obtain ⟨v, C, e, q, m⟩ := h2.get ht
    have ex : x = v := Option.some.inj ((y xs h1).symm.trans e)
    subst ex
    exact ⟨Same.refl _, C, q, fun b z => absurd (m b z) List.not_mem_nil⟩
  st := fun H s => by
    obtain ⟨xs, h1, h2⟩ := seq_tup h s
    exact ⟨xs, h1, by rw [h2.length]; exact Nat.le_refl _⟩
/-- the objects of a value that may be walked are nobody's to change -/
theorem EQ.walk {p : Addr} {Fs : List Addr} {Z : Addr → Prop} {H H' : Hp} {σ : L2.St} {S : Slots} {A : Nat → List Addr} {e : Option Src} {c : Cell} {e' : Option Src} {v : V} {B : List Addr} (h : SR K p Fs Z H σ S e A) (q : EQ K p Fs Z H S A c e' v H' B) (hk : c.k ≠ .vw ∨ c.t.flat = true) :
    ∀ a ∈ B, a ∉ Fs ∧ ¬ Own S A a ∧ Z a ∧ MutK (H' a) := fun a m => by
  refine ⟨q.df a m, fun w => ?_, q.sub a m, q.vw.mut a m⟩
  rcases hk with hk | hk
  · obtain ⟨i, t, hi, ma⟩ := w
    exact EQ.apart h q hk a m i t hi ma
  · rw [q.vw.flat hk] at m
    exact absurd m List.not_mem_nil
theorem rdi_seq {t : TE} {f : Ex} (h : Rd K t f) : RdI K (tSeqI K t) (iSeq f) := fun p Fs Z H σ S e A R its e' hs hf k => by
  unfold iSeq at hf
  cases h1 : f S e with
  | none => rw [h1] at hf; cases hf
  | some z =>
    obtain ⟨⟨kc, tc⟩, e1⟩ := z
    rw [h1] at hf
    simp only [Option.bind_eq_bind, Option.bind_some] at hf
    cases tc with
    | tup ts =>
      simp only [Option.some.injEq, Prod.mk.injEq] at hf
      obtain ⟨rfl, rfl⟩ := hf
      refine .inl ?_
      refine h p Fs Z H σ S e A _ _ e1 hs h1 fun v H1 B q => ?_
      have hv : Vw K p H1 v (.tup ts) B := q.vw
      obtain ⟨a, rfl⟩ := vw_ref_tup hv
      obtain ⟨xs, s1, s2⟩ := seq_tup hv ⟨Im.refl _, fun _ _ _ e => e⟩
      exact ⟨a, rfl, ⟨xs, s1⟩, k _ H1 B q.src q.mv (EQ.walk hs q (.inr rfl)) (it_tup hv)⟩
    | lst ts =>
      simp only at hf
      by_cases hk : kc = .vw
      · rw [if_pos hk] at hf; cases hf
      · rw [if_neg hk] at hf
        simp only [Option.some.injEq, Prod.mk.injEq] at hf
        obtain ⟨rfl, rfl⟩ := hf
        refine .inr ?_
        refine h p Fs Z H σ S e A _ _ e1 hs h1 fun v H1 B q => ?_
        have hv : Vw K p H1 v (.lst ts) B := q.vw
        obtain ⟨a, rfl⟩ := vw_ref_lst hv
        obtain ⟨xs, B', s1, s2, _⟩ := seq_list hv ⟨Im.refl _, fun _ _ _ e => e⟩
        exact ⟨a, rfl, ⟨xs, s1⟩, k _ H1 B q.src q.mv (EQ.walk hs q (.inl hk)) (it_list hv)⟩
    | _ => cases hf
theorem di_seq {tg iter : Expr} {ta : TE} {f : Ex} (h : DX K X iter ta f) (hK : X.K = K := by rfl) : DI K X tg iter (tSeqI K ta) (iSeq f) := by
  subst hK
  exact ⟨pi_or (pi_tup h.pe) (pi_list h.pe), rdi_seq h.rd⟩
/-- range(n), range(a, b) -/
def rngT (lo : Int) (n : Nat) : List T := (List.range n).map fun (i : Nat) => .int (lo + i)
def iR1 (f : Ax) : Ix := fun S e => do
  let (cs, e) ← f S e
  match ts cs with
  | [.int j] => if -(2 ^ 62) ≤ j ∧ j < 2 ^ 62 then some (rngT 0 j.toNat, e) else none
  | _ => none
def iR2 (f : Ax) : Ix := fun S e => do
  let (cs, e) ← f S e
  match ts cs with
  | [.int i, .int j] => if -(2 ^ 62) ≤ i ∧ i < 2 ^ 62 ∧ -(2 ^ 62) ≤ j ∧ j < 2 ^ 62 then some (rngT i (j - i).toNat, e) else none
  | _ => none
theorem rng_len (lo : Int) (n : Nat) : (rngT lo n).length = n := by
  unfold rngT
  rw [List.length_map, List.length_range]
theorem it_rng {p : Addr} {H1 : Hp} (lo : Int) (n : Nat) : ItOk K p (Itr lo n) H1 (rngT lo n) [] where
  go := fun i t H ht s => by
    have := (List.getElem?_eq_some_iff.mp ht).1
    rw [rng_len] at this
    exact this
  yl := fun i t H x H' ht s y => by
    obtain ⟨e1, e2⟩ := y
    have hi : i < n := by
      have := (List.getElem?_eq_some_iff.mp ht).1
      rw [rng_len] at this
      exact this
    have et : t = .int (lo + (i : Nat)) := by
      unfold rngT at ht
      rw [List.getElem?_map, List.getElem?_range hi] at ht
      exact (Option.some.inj ht).symm
    rw [et, e1, e2]
    exact ⟨Same.refl _, [], .int _, fun a m => m⟩
  st := fun H s => by
    show n ≤ (rngT lo n).length
    rw [rng_len]
    exact Nat.le_refl _
theorem vwl_ints1 {p : Addr} {H : Hp} {vs : List V} {i : Int} {B : List Addr} (h : VwL K p H vs [.int i] B) : vs = [.int i] := by
  cases h with
  | cons h1 h2 => cases h1; cases h2; rfl
theorem vwl_ints2 {p : Addr} {H : Hp} {vs : List V} {i j : Int} {B : List Addr} (h : VwL K p H vs [.int i, .int j] B) : vs = [.int i, .int j] := by
  cases h with
  | cons h1 h2 =>
    cases h1
    rw [vwl_ints1 h2]
theorem rdi_r1 {t : TA} {f : Ax} (h : RdA K t f) : RdI K (iRng1 t) (iR1 f) := fun p Fs Z H σ S e A R its e' hs hf k => by
  unfold iR1 at hf
  cases h1 : f S e with
  | none => rw [h1] at hf; cases hf
  | some z =>
    obtain ⟨cs, e1⟩ := z
    rw [h1] at hf
    simp only [Option.bind_eq_bind, Option.bind_some] at hf
    split at hf
    · rename_i j hj
      split at hf
      · rename_i hb
        simp only [Option.some.injEq, Prod.mk.injEq] at hf
        obtain ⟨rfl, rfl⟩ := hf
        refine h p Fs Z H σ S e A _ cs e1 hs h1 fun vs H1 B q => ?_
        have hv := q.vw
        rw [hj] at hv
        exact ⟨j, vwl_ints1 hv, hb.1, hb.2, k _ H1 [] q.src q.mv (fun a m => absurd m List.not_mem_nil) (it_rng 0 j.toNat)⟩
      · cases hf
    · cases hf
theorem rdi_r2 {t : TA} {f : Ax} (h : RdA K t f) : RdI K (iRng2 t) (iR2 f) := fun p Fs Z H σ S e A R its e' hs hf k => by
  unfold iR2 at hf
  cases h1 : f S e with
  | none => rw [h1] at hf; cases hf
  | some z =>
    obtain ⟨cs, e1⟩ := z
    rw [h1] at hf
    simp only [Option.bind_eq_bind, Option.bind_some] at hf
    split at hf
    · rename_i i j hj
      split at hf
      · rename_i hb
        simp only [Option.some.injEq, Prod.mk.injEq] at hf
        obtain ⟨rfl, rfl⟩ := hf
        refine h p Fs Z H σ S e A _ cs e1 hs h1 fun vs H1 B q => ?_
        have hv := q.vw
        rw [hj] at hv
        exact ⟨i, j, vwl_ints2 hv, hb, k _ H1 [] q.src q.mv (fun a m => absurd m List.not_mem_nil) (it_rng i (j - i).toNat)⟩
      · cases hf
    · cases hf
theorem di_r1 {tg : Expr} {p : Pos} {t : TA} {f : Ax} (ha : DA K X [a] t f) (hm : X.mg "range" = none) (hg : Gl X "range" := by rfl) (hs : starEach [a] X.env = [(false, eval a X.env)] := by rfl) : DI K X tg (.Call (.Name "range" p) [a] [] pos) (iRng1 t) (iR1 f) :=
  ⟨pi_range1 hg hm ha.pa hs, rdi_r1 ha.rd⟩
theorem di_r2 {tg b : Expr} {p : Pos} {t : TA} {f : Ax} (ha : DA K X [a, b] t f) (hm : X.mg "range" = none) (hg : Gl X "range" := by rfl) (hs : starEach [a, b] X.env = [(false, eval a X.env), (false, eval b X.env)] := by rfl) (hs2 : starEach [b] X.env = [(false, eval b X.env)] := by rfl) :
    DI K X tg (.Call (.Name "range" p) [a, b] [] pos) (iRng2 t) (iR2 f) := ⟨pi_range2 hg hm ha.pa hs hs2, rdi_r2 ha.rd⟩

/-! ### for -/
def forL (g : Gx) (b : Sx) : List T → Sx
  | [], S, e => some (.nx, S, e)
  | t :: its, S, e => do
    let (S, e) ← g (nk .shr t) S e
    let (fl, S, e) ← b S e
    match fl with
    | .nx => forL g b its S e
    | .ct => forL g b its S e
    | .bk => some (.nx, S, e)
    | .ret c => some (.ret c, S, e)
def sFor (it : Ix) (g : Gx) (b : Sx) : Sx := fun S e => do
  let (its, e) ← it S e
  forL g b its S e
theorem nk_shr (t : T) : nk .shr t = ⟨.shr, t⟩ := by unfold nk; split <;> rfl
theorem go_stay {p : Addr} {Fs : List Addr} {Z : Addr → Prop} {H H' : Hp} {σ σ' : L2.St} {S S' : Slots} {A A' : Nat → List Addr} {e : Option Src} {B : List Addr} (h : SR K p Fs Z H σ S e A) (g : Go Fs pn σ S A H σ' S' A' H') (hB : ∀ a ∈ B, a ∉ Fs ∧ ¬ Own S A a) : Stay B H H' := by
  refine ⟨fun b o e1 n => g.mo.fr b o e1 (fun m => ?_) fun w => ?_, fun a o m e1 => g.mo.fr a o e1 (hB a m).1 (hB a m).2⟩
  · have mu := h.src.mut b m
    rw [e1] at mu
    exact n mu
  · obtain ⟨i, t, hi, ma⟩ := w
    have mu := h.mut hi b ma
    rw [e1] at mu
    exact n mu
theorem rds_for {wi : TI} {G : TG} {tb : TS} {it : Ix} {g : Gx} {b : Sx} (hi : RdI K wi it) (hg : RdG K pn q ws G g) (hb : RdS K pn tb b) : RdS K pn (tFor wi G tb) (sFor it g b) := fun p Fs Z H σ S e A D fl S' e' hs hf k => by
  unfold sFor at hf
  cases h1 : it S e with
  | none => rw [h1] at hf; cases hf
  | some z =>
    obtain ⟨its, e1⟩ := z
    rw [h1] at hf
    have hf : forL g b its S e1 = some (fl, S', e') := hf
    refine hi p Fs Z H σ S e A _ its e1 hs h1 fun J H1 B s1 m1 hB ok => ?_
    have hs1 := hs.move m1 s1
    have g1 : Go Fs pn σ S A H σ S A H1 := Go.ex hs m1 s1
    -- the rest of the walk comes to the wanted end
    refine ⟨fun i m σ' H' => m = its.length - i ∧ i ≤ its.length ∧ ∃ S2 e2 A2, SR K p Fs Z H' σ' S2 e2 A2 ∧ Go Fs pn σ S A H1 σ' S2 A2 H' ∧ forL g b (its.drop i) S2 e2 = some (fl, S', e'),
      ⟨its.length, rfl, Nat.zero_le _, S, e1, A, hs1, Go.refl, hf⟩, ?_⟩
    rintro i m σ' H' ⟨rfl, hle, S2, e2, A2, r2, g2, f2⟩
    have stay : Stay B H1 H' := go_stay hs1 g2 fun a ma => ⟨(hB a ma).1, (hB a ma).2.1⟩
    by_cases hlt : i < its.length
    · have ht : its[i]? = some its[i] := List.getElem?_eq_getElem hlt
      refine .inr ⟨ok.go i _ H' ht stay, fun σ3 H3 => ∃ S3 e3 A3, SR K p Fs Z H3 σ3 S3 e3 A3 ∧ Go Fs pn σ S A H1 σ3 S3 A3 H3 ∧ forL g b (its.drop (i + 1)) S3 e3 = some (fl, S', e'), fun σ3 H3 q => ?_, fun x H3 y => ?_⟩
      · obtain ⟨S3, e3, A3, q1, q2, q3⟩ := q
        exact ⟨its.length - (i + 1), by omega, rfl, hlt, S3, e3, A3, q1, q2, q3⟩
      · obtain ⟨sm, B', vx, hB'⟩ := ok.yl i _ H' x H3 ht stay y
        rw [List.drop_eq_getElem_cons hlt] at f2
        unfold forL at f2
        have q : EQ K p Fs Z H' S2 A2 (nk .shr its[i]) e2 x H3 B' := by
          refine EQ.of vx (r2.src.stay fun a o _ z => sm a o z) (fun b o z _ => sm b o z) (fun a ma => (hB a (hB' a ma)).1) (fun z => nomatch z) (fun _ a ma j t hj mj => ?_) fun a ma => (hB a (hB' a ma)).2.2.1
          have ma' := hB' a ma
          rcases g2.mo.so a ⟨j, t, hj, mj⟩ with w | w
          · exact (hB a ma').2.1 w
          · have mu := (hB a ma').2.2.2
            rw [w] at mu
            exact mu
        cases c1 : g (nk .shr its[i]) S2 e2 with
        | none => rw [c1] at f2; cases f2
        | some z =>
          obtain ⟨S4, e4⟩ := z
          rw [c1] at f2
          refine hg p Fs Z H' σ' S2 e2 A2 _ e2 x H3 B' _ S4 e4 r2 q c1 fun H4 σ4 A4 r4 g4 _ => ?_
          cases c2 : b S4 e4 with
          | none => simp [c2] at f2
          | some z =>
            obtain ⟨fl5, S5, e5⟩ := z
            simp only [c2, Option.bind_eq_bind, Option.bind_some] at f2
            have g14 := g2.trans g4
            refine hb p Fs Z H4 σ4 S4 e4 A4 _ fl5 S5 e5 r4 c2 ?_
            cases fl5 with
            | nx => exact fun H5 σ5 A5 r5 g5 => ⟨S5, e5, A5, r5, g14.trans g5, f2⟩
            | ct => exact fun H5 σ5 A5 r5 g5 => ⟨S5, e5, A5, r5, g14.trans g5, f2⟩
            | bk =>
              simp only [Option.some.injEq, Prod.mk.injEq] at f2
              obtain ⟨rfl, rfl, rfl⟩ := f2
              exact fun H5 σ5 A5 r5 g5 => k H5 σ5 A5 r5 (g1.trans (g14.trans g5))
            | ret c =>
              simp only [Option.some.injEq, Prod.mk.injEq] at f2
              obtain ⟨rfl, rfl, rfl⟩ := f2
              exact fun H5 σ5 A5 v5 B5 r5 g5 rv => k H5 σ5 A5 v5 B5 r5 (g1.trans (g14.trans g5)) (rv.back (g1.trans g14))
    · have e0 : i = its.length := by omega
      subst e0
      refine .inl ⟨ok.st H' stay, ?_⟩
      rw [List.drop_length] at f2
      unfold forL at f2
      simp only [Option.some.injEq, Prod.mk.injEq] at f2
      obtain ⟨rfl, rfl, rfl⟩ := f2
      exact k H' σ' A2 r2 (g1.trans g2)
theorem ds_for {tg iter : Expr} {body : List Stmt} {wi : TI} {G : TG} {tb : TS} {it : Ix} {g : Gx} {b : Sx} (hi : DI K X tg iter wi it) (hg : DG K X pn q tg ws G g) (hb : DSs K X pn body tb b) (hp : PassesOwn (model X.prog X.w) X.A X.env X.xe := by exact PassesOwn.never) (hc : X.calm = true := by rfl) (hs : ∀ x, foldedSetIterable iter X.env x = pure x := by intro _; rfl) :
    DS K X pn (.For tg iter body [] pos) (tFor wi G tb) (sFor it g b) := ⟨ps_for hp hc hi.pi hg.pg hb.ps hs, rds_for hi.rd hg.rd hb.rd⟩

/-! ### while -/
def whileN (c : Bx) (b : Sx) : Nat → Sx
  | 0, _, _ => none
  | n + 1, S, e => do
    let (d, e) ← c S e
    if d then do
      let (fl, S, e) ← b S e
      match fl with
      | .nx => whileN c b n S e
      | .ct => whileN c b n S e
      | .bk => some (.nx, S, e)
      | .ret c => some (.ret c, S, e)
    else some (.nx, S, e)
def sWhile (n : Nat) (c : Bx) (b : Sx) : Sx := whileN c b n
theorem rds_while {tc : TT} {tb : TS} {c : Bx} {b : Sx} (n : Nat) (hc : RdT K tc c) (hb : RdS K pn tb b) : RdS K pn (tWhile tc tb) (sWhile n c b) := fun p Fs Z H σ S e A D fl S' e' hs hf k => by
  refine ⟨fun m σ' H' => ∃ S2 e2 A2, SR K p Fs Z H' σ' S2 e2 A2 ∧ Go Fs pn σ S A H σ' S2 A2 H' ∧ whileN c b m S2 e2 = some (fl, S', e'), ⟨n, S, e, A, hs, Go.refl, hf⟩, ?_⟩
  rintro m σ' H' ⟨S2, e2, A2, r2, g2, f2⟩
  cases m with
  | zero => cases f2
  | succ m =>
    unfold whileN at f2
    cases c1 : c S2 e2 with
    | none => rw [c1] at f2; cases f2
    | some z =>
      obtain ⟨d, e3⟩ := z
      rw [c1] at f2
      simp only [Option.bind_eq_bind, Option.bind_some] at f2
      refine hc p Fs Z H' σ' S2 e2 A2 _ d e3 r2 c1 fun H3 s3 m3 => ?_
      have r3 := r2.move m3 s3
      have g3 : Go Fs pn σ S A H σ' S2 A2 H3 := g2.trans (Go.ex r2 m3 s3)
      cases d with
      | false =>
        refine iteF ?_
        simp only [Bool.false_eq_true, if_false, Option.some.injEq, Prod.mk.injEq] at f2
        obtain ⟨rfl, rfl, rfl⟩ := f2
        exact k H3 σ' A2 r3 g3
      | true =>
        refine iteT ?_
        simp only [if_true] at f2
        refine ⟨fun σ5 H5 => ∃ S5 e5 A5, SR K p Fs Z H5 σ5 S5 e5 A5 ∧ Go Fs pn σ S A H σ5 S5 A5 H5 ∧ whileN c b m S5 e5 = some (fl, S', e'), fun σ5 H5 q => ⟨m, Nat.lt_succ_self m, q⟩, ?_⟩
        cases c2 : b S2 e3 with
        | none => simp [c2] at f2
        | some z =>
          obtain ⟨fl5, S5, e5⟩ := z
          simp only [c2, Option.bind_some] at f2
          refine hb p Fs Z H3 σ' S2 e3 A2 _ fl5 S5 e5 r3 c2 ?_
          cases fl5 with
          | nx => exact fun H5 σ5 A5 r5 g5 => ⟨S5, e5, A5, r5, g3.trans g5, f2⟩
          | ct => exact fun H5 σ5 A5 r5 g5 => ⟨S5, e5, A5, r5, g3.trans g5, f2⟩
          | bk =>
            simp only [Option.some.injEq, Prod.mk.injEq] at f2
            obtain ⟨rfl, rfl, rfl⟩ := f2
            exact fun H5 σ5 A5 r5 g5 => k H5 σ5 A5 r5 (g3.trans g5)
          | ret c =>
            simp only [Option.some.injEq, Prod.mk.injEq] at f2
            obtain ⟨rfl, rfl, rfl⟩ := f2
            exact fun H5 σ5 A5 v5 B5 r5 g5 rv => k H5 σ5 A5 v5 B5 r5 (g3.trans g5) (rv.back g3)
theorem ds_while {c : Expr} {body : List Stmt} {tc : TT} {tb : TS} {d : Bx} {b : Sx} (n : Nat) (hc : DT K X c tc d) (hb : DSs K X pn body tb b) (hp : PassesOwn (model X.prog X.w) X.A X.env X.xe := by exact PassesOwn.never) : DS K X pn (.While c body [] pos) (tWhile tc tb) (sWhile n d b) :=
  ⟨ps_while hp hc.pt hb.ps, rds_while n hc.rd hb.rd⟩
end
end DL

set_option Elab.async false
set_option linter.all false
set_option maxRecDepth 100000
set_option maxHeartbeats 1000000
namespace DL
open PySem PySem.Spec PyProof.Rows L2

/-! ### list comprehensions -/
def wipeS (S : Slots) : List Nat → Slots
  | [] => S
  | v :: vs => (wipeS S vs).set v none
section
variable {K : PySem.W.Frag} {X : Cx} {pos : Pos}
/-- slots forgotten, in both -/
theorem SR.drop2 {p : Addr} {Fs : List Addr} {Z : Addr → Prop} {H : Hp} {σ : L2.St} {S : Slots} {e : Option Src} {A : Nat → List Addr} (h : SR K p Fs Z H σ S e A) (i : Nat) : SR K p Fs Z H (σ.set i none) (S.set i none) e A := by
  have g := h.drop i
  refine ⟨by rw [List.length_set, List.length_set]; exact h.len, fun j c e1 => ?_, g.nd, g.dj, g.src, g.ds, g.z, g.zn⟩
  obtain ⟨k, v, h1, h2⟩ := g.slot j c e1
  rcases set_get e1 with ⟨_, z⟩ | ⟨ne, _⟩
  · cases z
  · exact ⟨k, v, by rw [List.getElem?_set_ne (fun q => ne q.symm)]; exact h1, h2⟩
theorem SR.wipe {p : Addr} {Fs : List Addr} {Z : Addr → Prop} {H : Hp} {σ : L2.St} {S : Slots} {e : Option Src} {A : Nat → List Addr} (h : SR K p Fs Z H σ S e A) : ∀ vs : List Nat, SR K p Fs Z H (L2.wipe σ vs) (wipeS S vs) e A
  | [] => h
  | v :: vs => (SR.wipe h vs).drop2 v
theorem wipe_at {σ : L2.St} {j : Nat} : ∀ {vs : List Nat}, j ∈ vs → j < σ.length → (L2.wipe σ vs)[j]? = some none
  | v :: vs, m, hj => by
    unfold L2.wipe
    by_cases e : j = v
    · subst e
      rw [List.getElem?_set_self (by rw [wipe_length]; exact hj)]
    · rw [List.getElem?_set_ne (fun q => e q.symm)]
      exact wipe_at ((List.mem_cons.mp m).resolve_left e) hj
theorem wipe_off {σ : L2.St} {j : Nat} : ∀ {vs : List Nat}, j ∉ vs → (L2.wipe σ vs)[j]? = σ[j]?
  | [], _ => rfl
  | v :: vs, m => by
    unfold L2.wipe
    rw [List.getElem?_set_ne (fun q => m (by rw [q]; exact List.mem_cons_self))]
    exact wipe_off fun z => m (List.mem_cons_of_mem _ z)
theorem wipe_eq {σ σ' : L2.St} {vs : List Nat} (h : ∀ j, j ∉ vs → σ'[j]? = σ[j]?) (l : σ'.length = σ.length) : L2.wipe σ' vs = L2.wipe σ vs := by
  apply List.ext_getElem?
  intro j
  by_cases m : j ∈ vs
  · by_cases hj : j < σ.length
    · rw [wipe_at m (by rw [l]; exact hj), wipe_at m hj]
    · rw [List.getElem?_eq_none (by rw [wipe_length, l]; omega), List.getElem?_eq_none (by rw [wipe_length]; omega)]
  · rw [wipe_off m, wipe_off m]
    exact h j m
theorem wipe_wipe {σ : L2.St} {vs : List Nat} : L2.wipe (L2.wipe σ vs) vs = L2.wipe σ vs := wipe_eq (fun _ m => wipe_off m) (wipe_length σ vs)

def RdTs (K : PySem.W.Frag) (t : TT) (f : Bx) : Prop := RdT K t f
structure DTs (K : PySem.W.Frag) (X : Cx) (ifs : List Expr) (t : TT) (f : Bx) : Prop where
  pt : PTs X ifs t
  rd : RdT K t f
def bYes : Bx := fun _ e => some (true, e)
theorem dts_nil : DTs K X [] tYes bYes := ⟨pts_nil, fun p Fs Z H σ S e A Q b e' h hf k => by
  have e1 := Option.some.inj hf
  cases e1
  exact k H h.src (Mv.refl _ _)⟩
theorem dts_one {c : Expr} {t : TT} {f : Bx} (h : DT K X c t f) : DTs K X [c] t f := ⟨pts_one h.pt, h.rd⟩

/-- what a comprehension walks: also one's own list, if what it holds is flat -/
def RdIw (K : PySem.W.Frag) (t : TI) (f : Ix) : Prop :=
  ∀ (p : Addr) (Fs : List Addr) (Z : Addr → Prop) (H : Hp) (σ : L2.St) (S : Slots) (e : Option Src) (A : Nat → List Addr) (R : It → Hp → Prop) (its : List T) (e' : Option Src),
    SR K p Fs Z H σ S e A → f S e = some (its, e') →
    (∀ J H' B, SrcR p H' e' Fs → Mv Fs H H' → (∀ a ∈ B, a ∉ Fs ∧ (¬ Own S A a ∨ its.all T.flat = true) ∧ Z a ∧ MutK (H' a)) → ItOk K p J H' its B → R J H') → t σ H R
structure DIw (K : PySem.W.Frag) (X : Cx) (tg iter : Expr) (t : TI) (f : Ix) : Prop where
  pi : PI X tg iter t
  rd : RdIw K t f
theorem RdI.w {K : PySem.W.Frag} {t : TI} {f : Ix} (h : RdI K t f) : RdIw K t f := fun p Fs Z H σ S e A R its e' hs hf k =>
  h p Fs Z H σ S e A R its e' hs hf fun J H' B s m b ok => k J H' B s m (fun a ma => ⟨(b a ma).1, .inl (b a ma).2.1, (b a ma).2.2⟩) ok
theorem DI.w {K : PySem.W.Frag} {X : Cx} {tg iter : Expr} {t : TI} {f : Ix} (h : DI K X tg iter t f) : DIw K X tg iter t f := ⟨h.pi, h.rd.w⟩
/-- a list or a tuple, one's own too if what it holds is flat -/
def iSeqO (f : Ex) : Ix := fun S e => do
  let (c, e) ← f S e
  match c.t with
  | .tup ts => some (ts, e)
  | .lst ts => if c.k = .vw ∧ ts.all T.flat = false then none else some (ts, e)
  | _ => none
theorem rdi_seqO {K : PySem.W.Frag} {t : TE} {f : Ex} (h : Rd K t f) : RdIw K (tSeqI K t) (iSeqO f) := fun p Fs Z H σ S e A R its e' hs hf k => by
  unfold iSeqO at hf
  cases h1 : f S e with
  | none => rw [h1] at hf; cases hf
  | some z =>
    obtain ⟨⟨kc, tc⟩, e1⟩ := z
    rw [h1] at hf
    simp only [Option.bind_eq_bind, Option.bind_some] at hf
    cases tc with
    | tup ts =>
      simp only [Option.some.injEq, Prod.mk.injEq] at hf
      obtain ⟨rfl, rfl⟩ := hf
      refine .inl ?_
      refine h p Fs Z H σ S e A _ _ e1 hs h1 fun v H1 B q => ?_
      have hv : Vw K p H1 v (.tup ts) B := q.vw
      obtain ⟨a, rfl⟩ := vw_ref_tup hv
      obtain ⟨xs, s1, s2⟩ := seq_tup hv ⟨Im.refl _, fun _ _ _ e => e⟩
      have w := EQ.walk hs q (.inr rfl)
      exact ⟨a, rfl, ⟨xs, s1⟩, k _ H1 B q.src q.mv (fun a ma => ⟨(w a ma).1, .inl (w a ma).2.1, (w a ma).2.2⟩) (it_tup hv)⟩
    | lst ts =>
      simp only at hf
      by_cases hk : kc = .vw ∧ ts.all T.flat = false
      · rw [if_pos hk] at hf; cases hf
      · rw [if_neg hk] at hf
        simp only [Option.some.injEq, Prod.mk.injEq] at hf
        obtain ⟨rfl, rfl⟩ := hf
        refine .inr ?_
        refine h p Fs Z H σ S e A _ _ e1 hs h1 fun v H1 B q => ?_
        have hv : Vw K p H1 v (.lst ts) B := q.vw
        obtain ⟨a, rfl⟩ := vw_ref_lst hv
        obtain ⟨xs, B', s1, s2, _⟩ := seq_list hv ⟨Im.refl _, fun _ _ _ e => e⟩
        refine ⟨a, rfl, ⟨xs, s1⟩, k _ H1 B q.src q.mv (fun b mb => ⟨q.df b mb, ?_, q.sub b mb, q.vw.mut b mb⟩) (it_list hv)⟩
        by_cases hk2 : kc = .vw
        · refine .inr ?_
          by_cases fl : ts.all T.flat = true
          · exact fl
          · exact absurd ⟨hk2, by simpa using fl⟩ hk
        · refine .inl fun w => ?_
          obtain ⟨i, t, hi, ma⟩ := w
          exact EQ.apart hs q hk2 b mb i t hi ma
    | _ => cases hf
theorem di_seqO {K : PySem.W.Frag} {X : Cx} {tg iter : Expr} {ta : TE} {f : Ex} (h : DX K X iter ta f) (hK : X.K = K := by rfl) : DIw K X tg iter (tSeqI K ta) (iSeqO f) := by
  subst hK
  exact ⟨pi_or (pi_tup h.pe) (pi_list h.pe), rdi_seqO h.rd⟩
def compL (g : Gx) (c : Bx) (f : Ex) (Sw : Slots) : List T → Option Src → List Cell → Option (List Cell × Option Src)
  | [], e, acc => some (acc, e)
  | t :: its, e, acc => do
    let (S, e) ← g (nk .shr t) Sw e
    let (b, e) ← c S e
    if b then do
      let (d, e) ← f S e
      if acc.length < sizeLine then compL g c f Sw its e (acc ++ [d]) else none
    else compL g c f Sw its e acc
def xLc (it : Ix) (g : Gx) (c : Bx) (f : Ex) (vs : List Nat) : Ex := fun S e => do
  let (its, e) ← it S e
  let (cs, e) ← compL g c f (wipeS S vs) its e []
  some (⟨jl cs, .lst (ts cs)⟩, e)
theorem VwL.snoc {p : Addr} {H : Hp} {xs : List V} {us : List T} {A B : List Addr} {v : V} {t : T} (h : VwL K p H xs us A) (q : Vw K p H v t B) : VwL K p H (xs ++ [v]) (us ++ [t]) (A ++ B) := by
  have := VwL.app h (.cons q .nil)
  rw [List.append_nil] at this
  exact this
theorem wipeS_off {S : Slots} {j : Nat} : ∀ {vs : List Nat}, j ∉ vs → (wipeS S vs)[j]? = S[j]?
  | [], _ => rfl
  | v :: vs, m => by
    unfold wipeS
    rw [List.getElem?_set_ne (fun q => m (by rw [q]; exact List.mem_cons_self))]
    exact wipeS_off fun z => m (List.mem_cons_of_mem _ z)
theorem wipeS_some {S : Slots} {j : Nat} {c : Cell} : ∀ {vs : List Nat}, (wipeS S vs)[j]? = some (some c) → S[j]? = some (some c)
  | [], h => h
  | v :: vs, h => by
    unfold wipeS at h
    rcases set_get h with ⟨_, z⟩ | ⟨_, z⟩
    · cases z
    · exact wipeS_some z
theorem SR.zmono {p : Addr} {Fs : List Addr} {Z Z' : Addr → Prop} {H : Hp} {σ : L2.St} {S : Slots} {e : Option Src} {A : Nat → List Addr} (h : SR K p Fs Z H σ S e A) (z : ∀ (i : Nat) (c : Cell), S[i]? = some (some c) → ∀ a ∈ A i, Z' a) (zn : ∀ a, H a = none → Z' a) : SR K p Fs Z' H σ S e A :=
  ⟨h.len, h.slot, h.nd, h.dj, h.src, h.ds, z, zn⟩
/-- an object is changed that no slot holds -/
theorem SR.updO {p : Addr} {Fs : List Addr} {Z : Addr → Prop} {H : Hp} {σ : L2.St} {S : Slots} {e : Option Src} {A : Nat → List Addr} {D : Addr} {o : HO} (h : SR K p Fs Z H σ S e A) (mu : MutK (H D)) (hF : D ∉ Fs) (hS : ∀ (i : Nat) (c : Cell), S[i]? = some (some c) → D ∉ A i) : SR K p Fs Z (upd H D o) σ S e A := by
  have im : Im H (upd H D o) := fun b u e1 n => by
    rw [upd_ne]
    · exact e1
    · intro z
      subst z
      rw [e1] at mu
      exact n mu
  have kp : ∀ a u, a ≠ D → H a = some u → (upd H D o) a = some u := fun a u n e1 => by rw [upd_ne n]; exact e1
  refine ⟨h.len, fun i c hc => ?_, h.nd, h.dj, h.src.stay fun a u m e1 => kp a u (fun z => hF (by rw [← z]; exact m)) e1, h.ds, h.z, fun a z => ?_⟩
  · obtain ⟨k, v, h1, h2⟩ := h.slot i c hc
    exact ⟨k, v, h1, h2.stay im fun a u m e1 => kp a u (fun z => hS i c hc (by rw [← z]; exact m)) e1⟩
  · by_cases q : a = D
    · subst q
      rw [upd_same] at z
      cases z
    · rw [upd_ne q] at z
      exact h.zn a z
theorem rd_lc {wi : TI} {G : TG} {tt : TT} {te : TE} {it : Ix} {g : Gx} {c : Bx} {f : Ex} {ws vs : List Nat} (hws : ∀ j ∈ ws, j ∈ vs) (hi : RdIw K wi it) (hg : RdG K false true ws G g) (hc : RdT K tt c) (he : Rd K te f) : Rd K (tLc wi G tt te vs) (xLc it g c f vs) := fun p Fs Z H σ S e A Q c0 e' hs hf k => by
  unfold xLc at hf
  cases h1 : it S e with
  | none => rw [h1] at hf; cases hf
  | some z =>
    obtain ⟨its, e1⟩ := z
    cases h2 : compL g c f (wipeS S vs) its e1 [] with
    | none => simp [h1, h2] at hf
    | some z =>
      obtain ⟨cs, e2⟩ := z
      simp only [h1, h2, Option.bind_eq_bind, Option.bind_some, Option.some.injEq, Prod.mk.injEq] at hf
      obtain ⟨rfl, rfl⟩ := hf
      refine hi p Fs Z H σ S e A _ its e1 hs h1 fun J H1 B s1 m1 hB ok D hD => ?_
      have hs1 := hs.move m1 s1
      have hDH : H D = none := m1.none_src s1 hD
      have DF : D ∉ Fs := fun z => by
        have mu := s1.mut D z
        rw [hD] at mu
        exact mu
      have DS : ∀ (i : Nat) (c : Cell), S[i]? = some (some c) → D ∉ A i := fun i c hc z => by
        have mu := hs1.mut hc D z
        rw [hD] at mu
        exact mu
      have DB : D ∉ B := fun z => by
        have mu := (hB D z).2.2.2
        rw [hD] at mu
        exact mu
      -- what items may be made of
      let Y : Addr → Prop := fun a => Z a ∧ a ≠ D ∧ ∀ (i : Nat) (t : T), i ∈ vs → S[i]? = some (some ⟨.own, t⟩) → a ∉ A i
      have yn : ∀ H', (∀ b o, H1 b = some o → b ∉ Fs → H' b = some o) → (∃ u, H' D = some u) → SrcR p H' (some ⟨[], 0, 0, 0⟩) Fs ∨ True → (∀ a, H' a = none → H1 a = none) → ∀ a, H' a = none → Y a := fun H' fr ⟨u, hu⟩ _ hn a z => by
        have z1 := hn a z
        refine ⟨hs1.zn a z1, (fun q => by rw [q, hu] at z; cases z), fun i t _ hi m => ?_⟩
        have mu := hs1.mut hi a m
        rw [z1] at mu
        exact mu
      have ysl : ∀ (i : Nat) (c : Cell), (wipeS S vs)[i]? = some (some c) → ∀ a ∈ A i, Y a := fun i c hc a m => by
        have hc' := wipeS_some hc
        refine ⟨hs.z i c hc' a m, fun q => DS i c hc' (by rw [← q]; exact m), fun j t hj hj2 => ?_⟩
        have nij : i ≠ j := fun q => by
          subst q
          have : (wipeS S vs)[i]? = some none := by
            have : ∀ {vs : List Nat}, i ∈ vs → i < S.length → (wipeS S vs)[i]? = some none := by
              intro vs
              induction vs with
              | nil => intro m; exact absurd m List.not_mem_nil
              | cons v vs ih =>
                intro m hl
                have ll : ∀ vs : List Nat, (wipeS S vs).length = S.length := fun vs => by
                  induction vs with
                  | nil => rfl
                  | cons v vs ih => unfold wipeS; rw [List.length_set, ih]
                unfold wipeS
                by_cases e : i = v
                · subst e
                  rw [List.getElem?_set_self (by rw [ll]; exact hl)]
                · rw [List.getElem?_set_ne (fun q => e q.symm)]
                  exact ih ((List.mem_cons.mp m).resolve_left e) hl
            exact this hj (List.getElem?_eq_some_iff.mp hc').1
          rw [this] at hc
          cases hc
        intro m2
        exact hs.dj j i t c hj2 hc' (fun q => nij q.symm) a m2 m
      have sD : Same H1 (upd H1 D (.lst [])) := same_new hD
      refine ⟨fun i m H' => m = its.length - i ∧ i ≤ its.length ∧ ∃ e3 accV acc C, SR K p Fs Y H' (L2.wipe σ vs) (wipeS S vs) e3 A ∧ H' D = some (.lst accV) ∧ EA K p Fs Z H S A acc e3 accV H' C ∧ (∀ b o, H1 b = some o → b ∉ Fs → H' b = some o) ∧ (∀ a, H' a = none → H1 a = none) ∧ D ∉ C ∧ compL g c f (wipeS S vs) (its.drop i) e3 acc = some (cs, e2),
        ⟨its.length, rfl, Nat.zero_le _, e1, [], [], [], ?_, upd_same, ?_, fun b o q _ => sD b o q, fun a z => ?_, List.not_mem_nil, h2⟩, ?_⟩
      · refine ((hs1.same sD).wipe vs).zmono ysl (fun a z => yn (upd H1 D (.lst [])) (fun b o q _ => sD b o q) ⟨_, upd_same⟩ (.inr trivial) (fun a z => ?_) a z)
        exact sD.free z
      · exact ⟨.nil, s1.stay fun a o _ q => sD a o q, m1.trans0 fun b o q _ => sD b o q, (fun a m => absurd m List.not_mem_nil), (fun _ => ⟨List.nodup_nil, fun a m => absurd m List.not_mem_nil⟩), (fun _ a m => absurd m List.not_mem_nil), fun a m => absurd m List.not_mem_nil⟩
      · exact sD.free z
      · rintro i m H' ⟨rfl, hle, e3, accV, acc, C, r3, hDa, ea, fr, nn, DC, f3⟩
        have stay : Stay B H1 H' := by
          refine ⟨fun b o q n => fr b o q fun z => ?_, fun a o ma q => fr a o q (hB a ma).1⟩
          have mu := s1.mut b z
          rw [q] at mu
          exact n mu
        by_cases hlt : i < its.length
        · have ht : its[i]? = some its[i] := List.getElem?_eq_getElem hlt
          refine .inr ⟨ok.go i _ H' ht stay, fun H3 => ∃ e4 accV acc C, SR K p Fs Y H3 (L2.wipe σ vs) (wipeS S vs) e4 A ∧ H3 D = some (.lst accV) ∧ EA K p Fs Z H S A acc e4 accV H3 C ∧ (∀ b o, H1 b = some o → b ∉ Fs → H3 b = some o) ∧ (∀ a, H3 a = none → H1 a = none) ∧ D ∉ C ∧ compL g c f (wipeS S vs) (its.drop (i + 1)) e4 acc = some (cs, e2),
            fun H3 ⟨e4, accV, acc, C, q⟩ => ⟨its.length - (i + 1), by omega, rfl, hlt, e4, accV, acc, C, q⟩, fun x H3 y => ?_⟩
          obtain ⟨sm, B', vx, hB'⟩ := ok.yl i _ H' x H3 ht stay y
          rw [List.drop_eq_getElem_cons hlt] at f3
          unfold compL at f3
          have ownS : ∀ a, Own (wipeS S vs) A a → Own S A a := fun a ⟨j, t, hj, mj⟩ => ⟨j, t, wipeS_some hj, mj⟩
          have eq : EQ K p Fs Y H' (wipeS S vs) A (nk .shr its[i]) e3 x H3 B' := by
            have fl' : ∀ a, a ∈ B' → ¬ Own S A a := fun a ma => by
              rcases (hB a (hB' a ma)).2.1 with z | z
              · exact z
              · rw [vx.flat (List.all_eq_true.mp z _ (List.getElem_mem hlt))] at ma
                exact absurd ma List.not_mem_nil
            refine EQ.of vx (r3.src.stay fun a o _ z => sm a o z) (fun b o z _ => sm b o z) (fun a ma => (hB a (hB' a ma)).1) (fun z => nomatch z) (fun _ a ma j t hj mj => fl' a ma (ownS a ⟨j, t, hj, mj⟩)) fun a ma => ?_
            have q := hB a (hB' a ma)
            exact ⟨q.2.2.1, fun z => DB (by rw [← z]; exact hB' a ma), fun j t _ hj mj => fl' a ma ⟨j, t, hj, mj⟩⟩
          cases c1 : g (nk .shr its[i]) (wipeS S vs) e3 with
          | none => rw [c1] at f3; cases f3
          | some z =>
            obtain ⟨S4, e4⟩ := z
            rw [c1] at f3
            refine hg p Fs Y H' (L2.wipe σ vs) (wipeS S vs) e3 A _ e3 x H3 B' _ S4 e4 r3 eq c1 fun H4 σ4 A4 r4 g4 t4 => ?_
            refine ⟨?_, ?_⟩
            · refine (wipe_eq (fun j mj => (t4.out j fun z => mj (hws j z)).1) t4.len).trans wipe_wipe
            have same4 : Same H' H4 := sm.trans (t4.quiet rfl)
            cases c2 : c S4 e4 with
            | none => simp [c2] at f3
            | some z =>
              obtain ⟨b, e5⟩ := z
              simp only [c2, Option.bind_eq_bind, Option.bind_some] at f3
              refine hc p Fs Y H4 σ4 S4 e4 A4 _ b e5 r4 c2 fun H5 s5 m5 => ?_
              have r5 := r4.move m5 s5
              -- all together
              have mv5 : Mv Fs H' H5 := Mv.trans0 (fun b o z _ => same4 b o z) m5
              have mk : ∀ (H6 : Hp) (e6 : Option Src), Mv Fs H' H6 → SrcR p H6 e6 Fs → SR K p Fs Y H6 (L2.wipe σ vs) (wipeS S vs) e6 A ∧ H6 D = some (.lst accV) ∧ EA K p Fs Z H S A acc e6 accV H6 C ∧ (∀ b o, H1 b = some o → b ∉ Fs → H6 b = some o) ∧ (∀ a, H6 a = none → H1 a = none) := fun H6 e6 m6 s6 => by
                refine ⟨r3.move m6 s6, m6 D _ hDa DF, ⟨ea.vw.move m6 r3.src.mut ea.df, s6, ea.mv.trans0 m6, ea.df, ea.own, ea.shr, ea.sub⟩, fun b o q n => m6 b o (fr b o q n) n, fun a z => nn a (m6.none_src s6 z)⟩
              cases b with
              | false =>
                refine iteF ?_
                obtain ⟨k1, k2, k3, k4, k5⟩ := mk H5 e5 mv5 s5
                exact ⟨e5, accV, acc, C, k1, k2, k3, k4, k5, DC, by simpa using f3⟩
              | true =>
                refine iteT ?_
                simp only [if_true] at f3
                cases c3 : f S4 e5 with
                | none => simp [c3] at f3
                | some z =>
                  obtain ⟨d, e6⟩ := z
                  simp only [c3, Option.bind_some] at f3
                  split at f3
                  · rename_i hz
                    refine he p Fs Y H5 σ4 S4 e5 A4 _ d e6 r5 c3 fun w H6 E q6 => ?_
                    have mv6 : Mv Fs H' H6 := mv5.trans0 q6.mv
                    obtain ⟨k1, k2, k3, k4, k5⟩ := mk H6 e6 mv6 q6.src
                    have DE : D ∉ E := fun z => (q6.sub D z).2.1 rfl
                    have hlen : accV.length = acc.length := by
                      have := ea.vw.length
                      unfold ts at this
                      rw [List.length_map] at this
                      exact this
                    have muD : MutK (H6 D) := by rw [k2]; trivial
                    have im7 : Im H6 (upd H6 D (.lst (accV ++ [w]))) := fun b u e1 n => by
                      rw [upd_ne]
                      · exact e1
                      · intro z
                        subst z
                        rw [e1] at muD
                        exact n muD
                    have kp : ∀ a u, a ≠ D → H6 a = some u → (upd H6 D (.lst (accV ++ [w]))) a = some u := fun a u n e1 => by rw [upd_ne n]; exact e1
                    refine ⟨accV, k2, by rw [hlen]; exact hz, e6, accV ++ [w], acc ++ [d], C ++ E, ?_, upd_same, ?_, fun b o q n => ?_, fun a z => ?_, ?_, f3⟩
                    · exact k1.updO muD DF fun j c' hj => DS j c' (wipeS_some hj)
                    · have hC : ∀ a ∈ C, ∃ u, H5 a = some u := fun a ma => by
                        obtain ⟨o, ho⟩ := ea.vw.there ma
                        exact ⟨o, mv5 a o ho (ea.df a ma)⟩
                      have fresh : d.k = .own ∨ d.t.flat = true → E.Nodup ∧ ∀ a ∈ E, H5 a = none := fun h => by
                        rcases h with h | h
                        · exact q6.own h
                        · rw [q6.vw.flat h]
                          exact ⟨List.nodup_nil, fun a m => absurd m List.not_mem_nil⟩
                      have back5 : ∀ a, H5 a = none → H a = none := fun a z => (ea.mv.trans0 mv5).none_src s5 z
                      refine ⟨?_, q6.src.stay fun a o ma e1 => kp a o (fun z => DF (by rw [← z]; exact ma)) e1, (fun b o e1 n => kp b o (fun z => by rw [z, hDH] at e1; cases e1) ((ea.mv.trans0 mv6) b o e1 n)), fun a ma => ?_, fun ho => ?_, fun hv a ma j t hj => ?_, fun a ma => ?_⟩
                      · have hv := VwL.snoc k3.vw q6.vw
                        have e0 : ts (acc ++ [d]) = ts acc ++ [d.t] := by unfold ts; rw [List.map_append]; rfl
                        rw [e0]
                        refine hv.stay im7 fun a u ma e1 => kp a u (fun z => ?_) e1
                        subst z
                        rcases List.mem_append.mp ma with ma | ma
                        · exact DC ma
                        · exact DE ma
                      · rcases List.mem_append.mp ma with ma | ma
                        · exact ea.df a ma
                        · exact q6.df a ma
                      · rw [List.all_append, Bool.and_eq_true] at ho
                        obtain ⟨n1, f1⟩ := ea.own ho.1
                        have hd : d.k = .own ∨ d.t.flat = true := by
                          have := ho.2
                          rw [List.all_cons, Bool.and_eq_true, Bool.or_eq_true] at this
                          rcases this.1 with z | z
                          · exact .inr z
                          · exact .inl (of_decide_eq_true z)
                        obtain ⟨n2, f2⟩ := fresh hd
                        refine ⟨List.nodup_append.mpr ⟨n1, n2, fun a ma b mb z => ?_⟩, fun a ma => ?_⟩
                        · subst z
                          obtain ⟨u, hu⟩ := hC a ma
                          rw [f2 a mb] at hu
                          cases hu
                        · rcases List.mem_append.mp ma with ma | ma
                          · exact f1 a ma
                          · exact back5 a (f2 a ma)
                      · rw [List.any_append, Bool.or_eq_false_iff] at hv
                        rcases List.mem_append.mp ma with ma | ma
                        · exact ea.shr hv.1 a ma j t hj
                        · have h0 := hv.2
                          rw [List.any_cons, Bool.or_eq_false_iff, Bool.and_eq_false_iff] at h0
                          have tracked : ∀ a, a ∈ A j → H5 a ≠ none := fun a mj z => by
                            have mu := hs.mut hj a mj
                            rw [back5 a z] at mu
                            exact mu
                          rcases h0.1 with z | z
                          · have z' : d.t.flat = true := by simpa using z
                            rw [q6.vw.flat z'] at ma
                            exact absurd ma List.not_mem_nil
                          · have nv : d.k ≠ .vw := of_decide_eq_false z
                            cases hk : d.k with
                            | own => exact fun mj => tracked a mj ((q6.own hk).2 a ma)
                            | vw => exact absurd hk nv
                            | shr =>
                              by_cases hjv : j ∈ vs
                              · exact (q6.sub a ma).2.2 j t hjv hj
                              · have o4 := t4.out j fun z => hjv (hws j z)
                                have hj4 : S4[j]? = some (some ⟨.own, t⟩) := by rw [o4.2.1, wipeS_off hjv]; exact hj
                                have := q6.shr hk a ma j t hj4
                                rw [o4.2.2] at this
                                exact this
                      · rcases List.mem_append.mp ma with ma | ma
                        · exact ea.sub a ma
                        · exact (q6.sub a ma).1
                    · exact kp b o (fun z => by rw [z, hD] at q; cases q) (k4 b o q n)
                    · by_cases q : a = D
                      · subst q; rw [upd_same] at z; cases z
                      · rw [upd_ne q] at z; exact k5 a z
                    · intro z
                      rcases List.mem_append.mp z with z | z
                      · exact DC z
                      · exact DE z
                  · cases f3
        · have e0 : i = its.length := by omega
          subst e0
          refine .inl ⟨ok.st H' stay, ?_⟩
          rw [List.drop_length] at f3
          unfold compL at f3
          simp only [Option.some.injEq, Prod.mk.injEq] at f3
          obtain ⟨rfl, rfl⟩ := f3
          refine k (.ref D) H' (D :: C) ⟨.lst hDa ea.vw, ea.src, ea.mv, fun a ma => ?_, fun hk => ?_, fun hk a ma j t hj => ?_, fun a ma => ?_⟩
          · rcases List.mem_cons.mp ma with z | ma
            · rw [z]; exact DF
            · exact ea.df a ma
          · have o : acc.all (fun c => c.t.flat || decide (c.k = .own)) = true := by
              have hk' : jl acc = .own := hk
              unfold jl at hk'
              by_cases o : acc.all (fun c => c.t.flat || decide (c.k = .own)) = true
              · exact o
              · rw [if_neg o] at hk'
                split at hk' <;> cases hk'
            obtain ⟨n1, f1⟩ := ea.own o
            refine ⟨List.nodup_cons.mpr ⟨DC, n1⟩, fun a ma => ?_⟩
            rcases List.mem_cons.mp ma with z | ma
            · rw [z]; exact hDH
            · exact f1 a ma
          · rcases List.mem_cons.mp ma with z | ma
            · rw [z]; exact DS j _ hj
            · exact EA.apart hs ea (by have hk' : jl acc = .shr := hk; rw [hk']; decide) a ma j t hj
          · rcases List.mem_cons.mp ma with z | ma
            · rw [z]; exact hs1.zn D hD
            · exact ea.sub a ma
end
end DL

set_option Elab.async false
set_option linter.all false
set_option maxRecDepth 100000
set_option maxHeartbeats 1000000
namespace DL
open PySem PySem.Spec PyProof.Rows L2

section
variable {K : PySem.W.Frag} {X : Cx} {pn : Bool} {pos : Pos}
theorem dx_lc {elt tg iter : Expr} {ifs : List Expr} {scope : Scope} {own : List (Str × Nat)} {wi : TI} {G : TG} {tt : TT} {te : TE} {it : Ix} {g : Gx} {c : Bx} {f : Ex} {ws : List Nat} (hi : DIw K X tg iter wi it) (ok : BlkOk X.N X.env.scope scope own)
    (hg : ∀ (s : Shared) (H : Hp) (C : Addr) (cl : List (Str × Addr)) (fp : List Addr), DG K (X.blk s H scope (compEnvC scope cl C X.env) fp) false true tg ws G g) (ht : ∀ (s : Shared) (H : Hp) (C : Addr) (cl : List (Str × Addr)) (fp : List Addr), DTs K (X.blk s H scope (compEnvC scope cl C X.env) fp) ifs tt c)
    (he : ∀ (s : Shared) (H : Hp) (C : Addr) (cl : List (Str × Addr)) (fp : List Addr), DX K (X.blk s H scope (compEnvC scope cl C X.env) fp) elt te f) (hws : ∀ j ∈ ws, j ∈ own.map (·.2) := by decide) (hN : X.N.Nodup := by assumption) (hc : X.calm = true := by rfl) (hs : ∀ x, foldedSetIterable iter X.env x = pure x := by intro _; rfl) :
    DX K X (.ListComp elt [⟨tg, iter, ifs, 0⟩] scope pos) (tLc wi G tt te (own.map (·.2))) (xLc it g c f (own.map (·.2))) := by
  refine ⟨pe_lc hc hN hi.pi ok (fun s H C cl fp => (hg s H C cl fp).pg) (fun s H C cl fp => (ht s H C cl fp).pt) (fun s H C cl fp => (he s H C cl fp).pe) hs, ?_⟩
  exact rd_lc hws hi.rd (hg {} (fun _ => none) 0 [] []).rd (ht {} (fun _ => none) 0 [] []).rd (he {} (fun _ => none) 0 [] []).rd
/-- name = [..] on one line -/
theorem ds_setLc (i : Nat) {y : Str} {py spos : Pos} {elt tg iter : Expr} {ifs : List Expr} {scope : Scope} {own : List (Str × Nat)} {wi : TI} {G : TG} {tt : TT} {te : TE} {it : Ix} {g : Gx} {c : Bx} {f : Ex} {ws : List Nat} (hi : DIw K X tg iter wi it) (ok : BlkOk X.N X.env.scope scope own)
    (hg : ∀ (s : Shared) (H : Hp) (C : Addr) (cl : List (Str × Addr)) (fp : List Addr), DG K (X.blk s H scope (compEnvC scope cl C X.env) fp) false true tg ws G g) (ht : ∀ (s : Shared) (H : Hp) (C : Addr) (cl : List (Str × Addr)) (fp : List Addr), DTs K (X.blk s H scope (compEnvC scope cl C X.env) fp) ifs tt c)
    (he : ∀ (s : Shared) (H : Hp) (C : Addr) (cl : List (Str × Addr)) (fp : List Addr), DX K (X.blk s H scope (compEnvC scope cl C X.env) fp) elt te f)
    (hsw : swapsWith (.ListComp elt [⟨tg, iter, ifs, 0⟩] scope pos) (some (.Name y py)) spos.line X.env = pure true) (hp : pn = true → i ≠ 0 := by decide) (hws : ∀ j ∈ ws, j ∈ own.map (·.2) := by decide) (hN : X.N.Nodup := by assumption) (hy : X.N[i]? = some y := by rfl) (hyl : X.env.scope.names.lookup y = some .local := by rfl) (hc : X.calm = true := by rfl) (hs : ∀ x, foldedSetIterable iter X.env x = pure x := by intro _; rfl) :
    DS K X pn (.Assign [.Name y py] (.ListComp elt [⟨tg, iter, ifs, 0⟩] scope pos) spos) (tAsg (tLc wi G tt te (own.map (·.2))) (gName i)) (sSet i (xLc it g c f (own.map (·.2)))) := by
  refine ⟨ps_setLc hc hN hy hyl hsw hi.pi ok (fun s H C cl fp => (hg s H C cl fp).pg) (fun s H C cl fp => (ht s H C cl fp).pt) (fun s H C cl fp => (he s H C cl fp).pe) hs, ?_⟩
  exact rds_set i hp (rd_lc hws hi.rd (hg {} (fun _ => none) 0 [] []).rd (ht {} (fun _ => none) 0 [] []).rd (he {} (fun _ => none) 0 [] []).rd)
end

/-! ### defs without a source -/
def spN (K : PySem.W.Frag) (m : Nat) (g : GN) : Sp := fun vs H Q _ => ∃ (p : Addr) (us : List T) (B : List Addr) (n : Bool) (t : T), VwL K p H vs us B ∧ us.length = m ∧ g us = some (n, t) ∧ ∀ v H' D, OQ K p H B n t v H' D → Q v H'
/-- the def x of the module is worth g -/
structure FnD (P : Program) (w : World) (K : PySem.W.Frag) (mg : Str → Option Value) (base : Heap) (k : Nat) (x : Str) (m : Nat) (g : GN) : Prop where
  ex : ∃ (f : Addr) (fd : FuncData) (ps : List Str), FnOk P w K mg base CX0 k f fd ps (spN K m g) ∧ mg x = some (.ref f) ∧ PySem.W.keepIn K (.ref f) = true ∧ Binds K fd ps []
def gArity (m : Nat) (g : GN) : GN := fun us => if us.length = m then g us else none
section
variable {K : PySem.W.Frag} {X : Cx} {pn : Bool} {pos : Pos} {e : Expr} {es : List Expr} {tes : TA}
theorem on_sp {m : Nat} {g : GN} : ON K (fun vs H Q => spN K m g (vs ++ []) H Q E0) (gArity m g) := fun p H xs us B n t Q hv hg k => by
  unfold gArity at hg
  split at hg
  · rename_i hm
    rw [List.append_nil]
    exact ⟨p, us, B, n, t, hv, hm, hg, k⟩
  · cases hg
theorem fnd_call {k j m : Nat} {x : Str} {g : GN} {f : Ax} {p : Pos} (F : FnD X.prog X.w K X.mg X.base k x m g) (hr : Room j X.A) (ha : DA K X (e :: es) tes f) (hj : k ≤ j := by decide) (hK : X.K = K := by rfl) (hg : Gl X x := by rfl) (hdb : (x == ("__debug__" : Str)) = false := by decide)
    (he : starEach (e :: es) X.env = (false, eval e X.env) :: starEach es X.env := by rfl) (hpl : (backTo pos (starEach es X.env)).any (·.1) = false := by rfl) :
    DX K X (.Call (.Name x p) (e :: es) [] pos) (tCall (spN K m g) [] E0 tes) (xCall (gArity m g) f) := by
  obtain ⟨fa, fd, ps, F1, F2, F3, F4⟩ := F.ex
  subst hK
  exact ⟨pe_call F1 (hr.mono hj) hg F2 F3 F4 .nil pass0 ha.pa hdb he hpl, rd_call on_sp ha.rd⟩
end

/-! ### a def from its body -/
def slots0 (N : List Str) (us : List T) : Slots := us.map (fun t => some ⟨.shr, t⟩) ++ List.replicate (N.length - us.length) none
theorem args_slots {K : PySem.W.Frag} {p : Addr} {H : Hp} {vs : List V} {us : List T} {B : List Addr} (h : VwL K p H vs us B) : ∃ A : Nat → List Addr, (∀ i t, us[i]? = some t → ∃ v, vs[i]? = some v ∧ Vw K p H v t (A i)) ∧ ∀ i a, a ∈ A i → a ∈ B := by
  induction us generalizing vs B with
  | nil => exact ⟨fun _ => [], fun i t e => by simp at e, fun i a m => absurd m List.not_mem_nil⟩
  | cons t us ih =>
    cases h with
    | @cons v vs' _ _ A0 B0 h1 h2 =>
      obtain ⟨A, a1, a2⟩ := ih h2
      refine ⟨fun i => match i with | 0 => A0 | i + 1 => A i, fun i t' e => ?_, fun i a m => ?_⟩
      · cases i with
        | zero =>
          have e1 : t = t' := by simpa using e
          subst e1
          exact ⟨v, rfl, h1⟩
        | succ i =>
          obtain ⟨v', e1, e2⟩ := a1 i t' (by simpa using e)
          exact ⟨v', by simpa using e1, e2⟩
      · cases i with
        | zero => exact List.mem_append_left _ m
        | succ i => exact List.mem_append_right _ (a2 i a m)
theorem slots0_get {N : List Str} {us : List T} {i : Nat} {c : Cell} (h : (slots0 N us)[i]? = some (some c)) : ∃ t, us[i]? = some t ∧ c = ⟨.shr, t⟩ := by
  unfold slots0 at h
  by_cases hi : i < us.length
  · rw [List.getElem?_append_left (by rw [List.length_map]; exact hi), List.getElem?_map, List.getElem?_eq_getElem hi] at h
    refine ⟨us[i], List.getElem?_eq_getElem hi, ?_⟩
    simpa using h.symm
  · rw [List.getElem?_append_right (by rw [List.length_map]; omega), List.getElem?_replicate] at h
    split at h <;> simp at h
theorem start_SR {K : PySem.W.Frag} {p : Addr} {Fs : List Addr} {H : Hp} {N : List Str} {vs : List V} {us : List T} {B : List Addr} {e : Option Src} (h : VwL K p H vs us B) (hl : us.length ≤ N.length) (hs : SrcR p H e Fs) (hd : ∀ a ∈ B, a ∉ Fs) : ∃ A, SR K p Fs (fun a => a ∈ B ∨ H a = none) H (L2.start N vs) (slots0 N us) e A ∧ ∀ b, ¬ Own (slots0 N us) A b := by
  obtain ⟨A, a1, a2⟩ := args_slots h
  have hvl := h.length
  refine ⟨A, ⟨?_, fun i c hc => ?_, fun i t hc => ?_, fun i j t c hc => ?_, hs, fun i c hc a m => hd a (a2 i a m), fun i c hc a m => .inl (a2 i a m), fun a z => .inr z⟩, fun b ⟨i, t, hi, _⟩ => ?_⟩
  · unfold L2.start slots0
    rw [List.length_append, List.length_append, List.length_map, List.length_map, List.length_replicate, List.length_replicate, hvl]
  · obtain ⟨t, ht, rfl⟩ := slots0_get hc
    obtain ⟨v, e1, e2⟩ := a1 i t ht
    refine ⟨(fun z => nomatch z), v, ?_, e2⟩
    have hi : i < vs.length := (List.getElem?_eq_some_iff.mp e1).1
    unfold L2.start
    rw [List.getElem?_append_left (by rw [List.length_map]; exact hi), List.getElem?_map, e1]
    rfl
  · obtain ⟨t', _, e1⟩ := slots0_get hc
    cases e1
  · obtain ⟨t', _, e1⟩ := slots0_get hc
    cases e1
  · obtain ⟨t', _, e1⟩ := slots0_get hi
    cases e1
/-- a body's answer -/
def Ans (b : Sx) (S : Slots) (e : Option Src) (n : Bool) (t : T) (e' : Option Src) : Prop :=
  (∃ (c : Cell) (S' : Slots), b S e = some (.ret c, S', e') ∧ c.t = t ∧ (n = true → c.k = .own ∨ c.t.flat = true)) ∨ ∃ S' : Slots, b S e = some (.nx, S', e') ∧ t = .non
section
variable {P : Program} {w : World} {K : PySem.W.Frag} {mg : Str → Option Value} {base : Heap}
theorem fn_pure {x qual : Str} {st : Stmt} {f : Addr} {fd : FuncData} {N ps : List Str} {k m : Nat} {g : GN} {b : Sx} (F : Fun K x qual st f fd) (S : FnScope N ps (defScope st)) (hm : ps.length = m)
    (hden : ∀ (cdv : Value) (A : Around) (outer : List Env) (s : Shared) (H : Hp) (E : XK), Room k (A.deeper (envOfC qual (defScope st) s.heap.objs.size f cdv)) →
      ∃ t, DSs K (cxOf CX0 P w K mg base N qual (defScope st) f cdv A outer s H E).nox false (defBody st) t b)
    (hsem : ∀ us n t, g us = some (n, t) → us.length = m → Ans b (slots0 N us) none n t none) : FnOk P w K mg base CX0 (k + 1) f fd ps (spN K m g) := by
  refine F.ok S (fun vs H Q E h => ?_) (fun cdv A outer s H vs Q E hr h => ?_)
  · obtain ⟨p, us, B, n, t, h1, h2, _⟩ := h
    rw [h1.length, h2, hm]
  · obtain ⟨p, us, B, n, t, h1, h2, h3, q⟩ := h
    obtain ⟨tb, den⟩ := hden cdv A outer s H E hr
    have hl : us.length ≤ N.length := by
      have := congrArg List.length S.pre
      rw [List.length_take] at this
      omega
    obtain ⟨AA, sr, no⟩ := start_SR (K := K) (Fs := []) (e := none) h1 hl rfl (fun a _ => List.not_mem_nil)
    refine ⟨tb, den.ps, ?_⟩
    have fin : ∀ {H' : Hp} {σ' : L2.St} {S' : Slots} {A' : Nat → List Addr}, Go [] false (L2.start N vs) (slots0 N us) AA H σ' S' A' H' → Same H H' := fun g b o e => g.mo.fr b o e List.not_mem_nil (no b)
    rcases hsem us n t h3 h2 with ⟨c, S', hb, ht, hn⟩ | ⟨S', hb, ht⟩
    · refine den.rd p [] _ H (L2.start N vs) (slots0 N us) none AA _ (.ret c) S' none sr hb fun H' σ' A' v B' r g rv => q v H' B' ⟨by rw [← ht]; exact rv.vw, fin g, fun hn' => ?_, rv.sub⟩
      rcases hn hn' with z | z
      · refine ⟨(rv.own z).1, fun a m => ?_⟩
        rcases ((rv.own z).2 a m).1 with y | y
        · exact absurd y (no a)
        · exact y
      · rw [rv.vw.flat z]
        exact ⟨List.nodup_nil, fun a m => absurd m List.not_mem_nil⟩
    · refine den.rd p [] _ H (L2.start N vs) (slots0 N us) none AA _ .nx S' none sr hb fun H' σ' A' r g => q .non H' [] ⟨by rw [ht]; exact .non, fin g, fun _ => ⟨List.nodup_nil, fun a m => absurd m List.not_mem_nil⟩, fun a m => absurd m List.not_mem_nil⟩
end

/-! ### defs with the source -/
structure SQ (K : PySem.W.Frag) (p : Addr) (Fs : List Addr) (H : Hp) (C : List Addr) (n : Bool) (t : T) (s' : Src) (v : V) (H' : Hp) (B : List Addr) : Prop where
  vw : Vw K p H' v t B
  src : SrcR p H' (some s') Fs
  mv : Mv Fs H H'
  df : ∀ a ∈ B, a ∉ Fs
  own : n = true → B.Nodup ∧ ∀ a ∈ B, H a = none
  sub : ∀ a ∈ B, a ∈ C ∨ H a = none
abbrev GS := List T → Src → Option (Bool × T × Src)
def spS (K : PySem.W.Frag) (m : Nat) (g : GS) : Sp := fun vs H Q _ => ∃ (p : Addr) (us : List T) (B : List Addr) (Fs : List Addr) (s s' : Src) (n : Bool) (t : T), VwL K p H vs us B ∧ us.length = m ∧ SrcR p H (some s) Fs ∧ (∀ a ∈ B, a ∉ Fs) ∧ g us s = some (n, t, s') ∧
  ∀ v H' D, SQ K p Fs H B n t s' v H' D → Q v H'
structure FnS (P : Program) (w : World) (K : PySem.W.Frag) (mg : Str → Option Value) (base : Heap) (k : Nat) (x : Str) (m : Nat) (g : GS) : Prop where
  ex : ∃ (f : Addr) (fd : FuncData) (ps : List Str), FnOk P w K mg base CX0 k f fd ps (spS K m g) ∧ mg x = some (.ref f) ∧ PySem.W.keepIn K (.ref f) = true ∧ Binds K fd ps []
def xCallS (m : Nat) (g : GS) (f : Ax) : Ex := fun S e => do
  let (cs, e) ← f S e
  match e with
  | none => none
  | some s => if (ts cs).length = m then (g (ts cs) s).bind fun (n, t, s) => some (kOf n (jl cs) t, some s) else none
section
variable {K : PySem.W.Frag} {X : Cx} {pn : Bool} {pos : Pos} {e : Expr} {es : List Expr} {tes : TA}
theorem rd_callS {m : Nat} {g : GS} {ta : TA} {fa : Ax} (ha : RdA K ta fa) : Rd K (tCall (spS K m g) [] E0 ta) (xCallS m g fa) := fun p Fs Z H σ S e A Q c e' h hf k => by
  unfold xCallS at hf
  cases h1 : fa S e with
  | none => rw [h1] at hf; cases hf
  | some z =>
    obtain ⟨cs, e1⟩ := z
    rw [h1] at hf
    simp only [Option.bind_eq_bind, Option.bind_some] at hf
    cases e1 with
    | none => cases hf
    | some s =>
      simp only at hf
      split at hf
      · rename_i hm
        cases h3 : g (ts cs) s with
        | none => simp [h3] at hf
        | some z =>
          obtain ⟨n, t, s'⟩ := z
          simp only [h3, Option.bind_some, Option.some.injEq, Prod.mk.injEq] at hf
          obtain ⟨rfl, rfl⟩ := hf
          refine ha p Fs Z H σ S e A _ cs (some s) h h1 fun vs H1 B q1 => ?_
          refine ⟨p, ts cs, B, Fs, s, s', n, t, by rw [List.append_nil]; exact q1.vw, hm, q1.src, q1.df, h3, fun v H2 D q3 => k v H2 D ?_⟩
          have hs1 := h.behindA q1
          refine EQ.of q3.vw q3.src (q1.mv.trans0 q3.mv) q3.df (fun hn => ?_) (fun hn a mB i t0 hi => ?_) (fun a mB => ?_)
          · cases n with
            | false => cases hj : jl cs <;> rw [hj] at hn <;> simp at hn
            | true =>
              obtain ⟨o1, o2⟩ := q3.own rfl
              exact ⟨o1, fun a m => q1.mv.none_src q1.src (o2 a m)⟩
          · rcases q3.sub a mB with y | y
            · refine EA.apart h q1 ?_ a y i t0 hi
              intro z
              cases n with
              | false => rw [z] at hn; simp at hn
              | true => simp at hn
            · intro z
              have mu := hs1.mut hi a z
              rw [y] at mu
              exact mu
          · rcases q3.sub a mB with y | y
            · exact q1.sub a y
            · exact h.zn a (q1.mv.none_src q1.src y)
      · cases hf
theorem fns_call {k j m : Nat} {x : Str} {g : GS} {f : Ax} {p : Pos} (F : FnS X.prog X.w K X.mg X.base k x m g) (hr : Room j X.A) (ha : DA K X (e :: es) tes f) (hj : k ≤ j := by decide) (hK : X.K = K := by rfl) (hg : Gl X x := by rfl) (hdb : (x == ("__debug__" : Str)) = false := by decide)
    (he : starEach (e :: es) X.env = (false, eval e X.env) :: starEach es X.env := by rfl) (hpl : (backTo pos (starEach es X.env)).any (·.1) = false := by rfl) :
    DX K X (.Call (.Name x p) (e :: es) [] pos) (tCall (spS K m g) [] E0 tes) (xCallS m g f) := by
  obtain ⟨fa, fd, ps, F1, F2, F3, F4⟩ := F.ex
  subst hK
  exact ⟨pe_call F1 (hr.mono hj) hg F2 F3 F4 .nil pass0 ha.pa hdb he hpl, rd_callS ha.rd⟩
end
section
variable {P : Program} {w : World} {K : PySem.W.Frag} {mg : Str → Option Value} {base : Heap}
theorem fn_src {x qual : Str} {st : Stmt} {f : Addr} {fd : FuncData} {N ps : List Str} {k m : Nat} {g : GS} {b : Sx} (F : Fun K x qual st f fd) (S : FnScope N ps (defScope st)) (hm : ps.length = m)
    (hden : ∀ (cdv : Value) (A : Around) (outer : List Env) (s : Shared) (H : Hp) (E : XK), Room k (A.deeper (envOfC qual (defScope st) s.heap.objs.size f cdv)) →
      ∃ t, DSs K (cxOf CX0 P w K mg base N qual (defScope st) f cdv A outer s H E).nox false (defBody st) t b)
    (hsem : ∀ us s n t s', g us s = some (n, t, s') → us.length = m → Ans b (slots0 N us) (some s) n t (some s')) : FnOk P w K mg base CX0 (k + 1) f fd ps (spS K m g) := by
  refine F.ok S (fun vs H Q E h => ?_) (fun cdv A outer s H vs Q E hr h => ?_)
  · obtain ⟨p, us, B, Fs, s, s', n, t, h1, h2, _⟩ := h
    rw [h1.length, h2, hm]
  · obtain ⟨p, us, B, Fs, z, z', n, t, h1, h2, hs, hd, h3, q⟩ := h
    obtain ⟨tb, den⟩ := hden cdv A outer s H E hr
    have hl : us.length ≤ N.length := by
      have := congrArg List.length S.pre
      rw [List.length_take] at this
      omega
    obtain ⟨AA, sr, no⟩ := start_SR (K := K) h1 hl hs hd
    refine ⟨tb, den.ps, ?_⟩
    have fin : ∀ {H' : Hp} {σ' : L2.St} {S' : Slots} {A' : Nat → List Addr}, Go Fs false (L2.start N vs) (slots0 N us) AA H σ' S' A' H' → Mv Fs H H' := fun g b o e n => g.mo.fr b o e n (no b)
    rcases hsem us z n t z' h3 h2 with ⟨c, S', hb, ht, hn⟩ | ⟨S', hb, ht⟩
    · refine den.rd p Fs _ H (L2.start N vs) (slots0 N us) (some z) AA _ (.ret c) S' (some z') sr hb fun H' σ' A' v B' r g rv => q v H' B' ⟨by rw [← ht]; exact rv.vw, r.src, fin g, rv.df, fun hn' => ?_, rv.sub⟩
      rcases hn hn' with z | z
      · refine ⟨(rv.own z).1, fun a m => ?_⟩
        rcases ((rv.own z).2 a m).1 with y | y
        · exact absurd y (no a)
        · exact y
      · rw [rv.vw.flat z]
        exact ⟨List.nodup_nil, fun a m => absurd m List.not_mem_nil⟩
    · refine den.rd p Fs _ H (L2.start N vs) (slots0 N us) (some z) AA _ .nx S' (some z') sr hb fun H' σ' A' r g => q .non H' [] ⟨by rw [ht]; exact .non, r.src, fin g, (fun a m => absurd m List.not_mem_nil), fun _ => ⟨List.nodup_nil, fun a m => absurd m List.not_mem_nil⟩, fun a m => absurd m List.not_mem_nil⟩
end

/-! ### owned lists in slots, changed -/
section
variable {K : PySem.W.Frag} {X : Cx} {pn : Bool} {pos : Pos}
/-- an owned slot's own object is changed; what it holds now: things it held, new things, flat things -/
theorem SR.chg {p : Addr} {Fs : List Addr} {Z : Addr → Prop} {H : Hp} {σ : L2.St} {S : Slots} {e : Option Src} {A : Nat → List Addr} {i : Nat} {t t' : T} {a : Addr} {o : HO} {B : List Addr} {v : V} (h : SR K p Fs Z H σ S e A) (hi : S[i]? = some (some ⟨.own, t⟩)) (hσ : σ[i]? = some (some v)) (ha : a ∈ A i) (hm : MutK (some o))
    (hv : Vw K p (upd H a o) v t' B) (hn : B.Nodup) (hB : ∀ b ∈ B, b ∈ A i ∨ (b ∉ Fs ∧ Z b ∧ ∀ j c, S[j]? = some (some c) → b ∉ A j)) :
    SR K p Fs Z (upd H a o) σ (S.set i (some ⟨.own, t'⟩)) e (putA A i B) ∧ (∀ H0 A0 S0, Go Fs pn σ S0 A0 H0 σ S A H → (∀ b ∈ B, b ∈ A i ∨ H0 b = none) → Go Fs pn σ S0 A0 H0 σ (S.set i (some ⟨.own, t'⟩)) (putA A i B) (upd H a o)) := by
  have mu : MutK (H a) := h.mut hi a ha
  have im : Im H (upd H a o) := fun b u e1 n => by
    rw [upd_ne]
    · exact e1
    · intro z; subst z; rw [e1] at mu; exact n mu
  have kp : ∀ b u, b ≠ a → H b = some u → (upd H a o) b = some u := fun b u n e1 => by rw [upd_ne n]; exact e1
  have aF : a ∉ Fs := h.ds i _ hi a ha
  have other : ∀ j c, j ≠ i → S[j]? = some (some c) → ∀ b ∈ A j, b ≠ a := fun j c ne hj b m z => by
    subst z
    exact h.dj i j t c hi hj (fun q => ne q.symm) b ha m
  refine ⟨⟨by rw [List.length_set]; exact h.len, fun j c hj => ?_, fun j u hj => ?_, fun j l u c hj hl ne b m => ?_, h.src.stay fun b u m e1 => kp b u (fun z => aF (by rw [← z]; exact m)) e1, fun j c hj b m => ?_, fun j c hj b m => ?_, fun b z => ?_⟩, fun H0 A0 S0 g hB0 => ⟨⟨fun b u e1 f w => ?_, fun b w => ?_⟩, g.th.trans Th.upd, fun _ => rfl⟩⟩
  · rcases set_get hj with ⟨rfl, z⟩ | ⟨ne, z⟩
    · cases z
      rw [putA_same]
      exact ⟨(fun z => nomatch z), v, hσ, hv⟩
    · obtain ⟨k, v, h1, h2⟩ := h.slot j c z
      rw [putA_ne ne]
      exact ⟨k, v, h1, h2.stay im fun b u m e1 => kp b u (other j c ne z b m) e1⟩
  · rcases set_get hj with ⟨rfl, z⟩ | ⟨ne, z⟩
    · rw [putA_same]; exact hn
    · rw [putA_ne ne]; exact h.nd j u z
  · rcases set_get hj with ⟨rfl, z⟩ | ⟨nj, z⟩
    · rw [putA_same] at m
      rcases set_get hl with ⟨rfl, y⟩ | ⟨nl, y⟩
      · exact absurd rfl ne
      · rw [putA_ne nl]
        rcases hB b m with w | w
        · exact h.dj j l t c hi y ne b w
        · exact w.2.2 l c y
    · rw [putA_ne nj] at m
      rcases set_get hl with ⟨rfl, y⟩ | ⟨nl, y⟩
      · rw [putA_same]
        intro q
        rcases hB b q with w | w
        · exact h.dj j l u ⟨.own, t⟩ z hi ne b m w
        · exact w.2.2 j _ z m
      · rw [putA_ne nl]
        exact h.dj j l u c z y ne b m
  · rcases set_get hj with ⟨rfl, z⟩ | ⟨ne, z⟩
    · rw [putA_same] at m
      rcases hB b m with w | w
      · exact h.ds j _ hi b w
      · exact w.1
    · rw [putA_ne ne] at m; exact h.ds j c z b m
  · rcases set_get hj with ⟨rfl, z⟩ | ⟨ne, z⟩
    · rw [putA_same] at m
      rcases hB b m with w | w
      · exact h.z j _ hi b w
      · exact w.2.1
    · rw [putA_ne ne] at m; exact h.z j c z b m
  · by_cases q : b = a
    · subst q; rw [upd_same] at z; cases z
    · rw [upd_ne q] at z; exact h.zn b z
  · have e2 := g.mo.fr b u e1 f w
    refine kp b u (fun z => ?_) e2
    subst z
    rcases g.mo.so b ⟨i, t, hi, ha⟩ with q | q
    · exact w q
    · rw [q] at e1; cases e1
  · obtain ⟨j, u, hj, m⟩ := w
    rcases set_get hj with ⟨rfl, z⟩ | ⟨ne, z⟩
    · rw [putA_same] at m
      rcases hB0 b m with y | y
      · exact g.mo.so b ⟨j, t, hi, y⟩
      · exact .inr y
    · rw [putA_ne ne] at m
      exact g.mo.so b ⟨j, u, z, m⟩
end
end DL

set_option Elab.async false
set_option linter.all false
set_option maxRecDepth 100000
set_option maxHeartbeats 1000000
namespace DL
open PySem PySem.Spec PyProof.Rows L2

/-! ### methods that change a list in an owned slot -/
/-- what an owned slot with a list holds -/
theorem SR.lst {K : PySem.W.Frag} {p : Addr} {Fs : List Addr} {Z : Addr → Prop} {H : Hp} {σ : L2.St} {S : Slots} {e : Option Src} {A : Nat → List Addr} {i : Nat} {us : List T} (h : SR K p Fs Z H σ S e A) (hi : S[i]? = some (some ⟨.own, .lst us⟩)) :
    ∃ l xs B, σ[i]? = some (some (.ref l)) ∧ H l = some (.lst xs) ∧ VwL K p H xs us B ∧ A i = l :: B ∧ l ∉ B ∧ B.Nodup := by
  obtain ⟨_, v, h1, h2⟩ := h.slot i _ hi
  have nd := h.nd i _ hi
  generalize hA : A i = C at h2 nd
  have h2 : Vw K p H v (.lst us) C := h2
  cases h2 with
  | lst q r =>
    have := List.nodup_cons.mp nd
    exact ⟨_, _, _, h1, q, r, rfl, this.1, this.2⟩
def okItem (c : Cell) : Bool := c.t.flat || decide (c.k = .own)
theorem EQ.item {K : PySem.W.Frag} {p : Addr} {Fs : List Addr} {Z : Addr → Prop} {H H' : Hp} {σ : L2.St} {S : Slots} {A : Nat → List Addr} {e : Option Src} {c : Cell} {e' : Option Src} {v : V} {B : List Addr} (h : SR K p Fs Z H σ S e A) (q : EQ K p Fs Z H S A c e' v H' B) (ho : okItem c = true) :
    B.Nodup ∧ (∀ a ∈ B, H a = none) ∧ ∀ b ∈ B, b ∉ Fs ∧ Z b ∧ ∀ j c, S[j]? = some (some c) → b ∉ A j := by
  have h1 : B.Nodup ∧ ∀ a ∈ B, H a = none := by
    unfold okItem at ho
    rw [Bool.or_eq_true] at ho
    rcases ho with z | z
    · rw [q.vw.flat z]
      exact ⟨List.nodup_nil, fun a m => absurd m List.not_mem_nil⟩
    · exact q.own (of_decide_eq_true z)
  refine ⟨h1.1, h1.2, fun b m => ⟨q.df b m, q.sub b m, fun j c hj mj => ?_⟩⟩
  have mu := h.mut hj b mj
  rw [h1.2 b m] at mu
  exact mu
section
variable {K : PySem.W.Frag} {X : Cx} {pn : Bool} {pos : Pos}
/-- a slot's own list becomes another one: us -> us', the new one's items among the old ones and a new item's -/
theorem SR.relist {p : Addr} {Fs : List Addr} {Z : Addr → Prop} {H H1 : Hp} {σ : L2.St} {S : Slots} {e e1 : Option Src} {A : Nat → List Addr} {i l : Nat} {us us' : List T} {xs xs' : List V} {B B' : List Addr} (h : SR K p Fs Z H σ S e A) (h1 : SR K p Fs Z H1 σ S e1 A) (g : Go Fs pn σ S A H σ S A H1)
    (hi : S[i]? = some (some ⟨.own, .lst us⟩)) (hσ : σ[i]? = some (some (.ref l))) (hl : H1 l = some (.lst xs)) (hA : A i = l :: B) (hv : VwL K p H1 xs' us' B') (hn : B'.Nodup) (nl : l ∉ B') (hB : ∀ b ∈ B', b ∈ B ∨ (H b = none ∧ b ∉ Fs ∧ Z b ∧ ∀ j c, S[j]? = some (some c) → b ∉ A j)) :
    ∃ A', SR K p Fs Z (upd H1 l (.lst xs')) σ (S.set i (some ⟨.own, .lst us'⟩)) e1 A' ∧ Go Fs pn σ S A H σ (S.set i (some ⟨.own, .lst us'⟩)) A' (upd H1 l (.lst xs')) := by
  have mu : MutK (H1 l) := by rw [hl]; trivial
  have im : Im H1 (upd H1 l (.lst xs')) := fun b u e1 n => by
    rw [upd_ne]
    · exact e1
    · intro z; subst z; rw [e1] at mu; exact n mu
  have hv' : Vw K p (upd H1 l (.lst xs')) (.ref l) (.lst us') (l :: B') := .lst upd_same (hv.stay im fun a u m e1 => by rw [upd_ne (fun z => nl (by rw [← z]; exact m))]; exact e1)
  have q := SR.chg (pn := pn) h1 hi hσ (by rw [hA]; exact List.mem_cons_self) (o := .lst xs') (show MutK (some (HO.lst xs')) from True.intro) hv' (List.nodup_cons.mpr ⟨nl, hn⟩) (fun b m => by
    rcases List.mem_cons.mp m with z | m
    · rw [z, hA]; exact .inl List.mem_cons_self
    · rcases hB b m with w | w
      · rw [hA]; exact .inl (List.mem_cons_of_mem _ w)
      · exact .inr w.2)
  refine ⟨_, q.1, q.2 H A S g fun b m => ?_⟩
  rcases List.mem_cons.mp m with z | m
  · rw [z, hA]; exact .inl List.mem_cons_self
  · rcases hB b m with w | w
    · rw [hA]; exact .inl (List.mem_cons_of_mem _ w)
    · exact .inr w.1
/-- x.append(e) -/
def sApp (i : Nat) (f : Ex) : Sx := fun S e => do
  let (c, e) ← f S e
  match S[i]? with
  | some (some ⟨.own, .lst us⟩) => if us.length < sizeLine ∧ okItem c = true then some (.nx, S.set i (some ⟨.own, .lst (us ++ [c.t])⟩), e) else none
  | _ => none
theorem rds_app {te : TE} {f : Ex} (i : Nat) (h : Rd K te f) : RdS K pn (tDrop (tBM K "list" rAppend (tVar i) (tCons te tNil))) (sApp i f) := fun p Fs Z H σ S e A D fl S' e' hs hf k => by
  unfold sApp at hf
  cases h1 : f S e with
  | none => rw [h1] at hf; cases hf
  | some z =>
    obtain ⟨c, e1⟩ := z
    rw [h1] at hf
    simp only [Option.bind_eq_bind, Option.bind_some] at hf
    split at hf
    · rename_i us hi
      split at hf
      · rename_i hz
        simp only [Option.some.injEq, Prod.mk.injEq] at hf
        obtain ⟨rfl, rfl, rfl⟩ := hf
        obtain ⟨l, xs, B, v1, v2, v3, v4, v5, v6⟩ := hs.lst hi
        refine ⟨.ref l, v1, .inl ⟨rfl, xs, SqL.of v2⟩, ?_⟩
        refine h p Fs Z H σ S e A _ c e1 hs h1 fun w H1 C q => ?_
        have lF : l ∉ Fs := hs.ds i _ hi l (by rw [v4]; exact List.mem_cons_self)
        have hl1 : H1 l = some (.lst xs) := q.mv l _ v2 lF
        obtain ⟨q1, q2, q3⟩ := EQ.item hs q hz.2
        refine ⟨l, xs, w, rfl, rfl, hl1, by rw [v3.length]; exact hz.1, ?_⟩
        have nlC : l ∉ C := fun z => by rw [q2 l z] at v2; cases v2
        have BF : ∀ a ∈ B, a ∉ Fs := fun a m => hs.ds i _ hi a (by rw [v4]; exact List.mem_cons_of_mem _ m)
        obtain ⟨A', r1, r2⟩ := SR.relist (pn := pn) (us' := us ++ [c.t]) hs (hs.behind q) (Go.ex hs q.mv q.src) hi v1 hl1 v4 (VwL.snoc (v3.move q.mv hs.src.mut BF) q.vw) (List.nodup_append.mpr ⟨v6, q1, fun a ma b mb z => by
            subst z
            obtain ⟨u, hu⟩ := v3.there ma
            rw [q2 a mb] at hu
            cases hu⟩) (fun z => (List.mem_append.mp z).elim v5 nlC) (fun b m => (List.mem_append.mp m).imp (fun z => z) fun z => ⟨q2 b z, q3 b z⟩)
        exact k _ _ _ r1 r2
      · cases hf
    · cases hf
theorem ds_app (i : Nat) {x : Str} {e : Expr} {te : TE} {f : Ex} {p1 p2 p3 : Pos} (h : DX K X e te f) (hK : X.K = K := by rfl) (hN : X.N[i]? = some x := by rfl) (hv : Vis X.env.scope x := by first | exact Or.inl rfl | exact Or.inr (Or.inl rfl) | exact Or.inr (Or.inr rfl)) (hd : (x == ("__debug__" : Str)) = false := by decide)
    (hcd : (x == ("__classdict__" : Str)) = false := by decide) (pe : PE X (.Call (.Attribute (.Name x p1) "append" p2) [e] [] p3) (tBM X.K "list" rAppend (tVar i) (tCons te tNil)) := by exact pe_bm PySem.F.plainAttrs_list PySem.F.slot_list_append PySem.F.type_list_append mt_append (pe_var (by assumption) (by assumption) (by assumption) (by assumption)) (pa_cons (DX.pe (by assumption)) pa_nil)) (hs : swapsWith (.Call (.Attribute (.Name x p1) "append" p2) [e] [] p3) none pos.line X.env = pure false := by rfl) :
    DS K X pn (.Expr (.Call (.Attribute (.Name x p1) "append" p2) [e] [] p3) pos) (tDrop (tBM K "list" rAppend (tVar i) (tCons te tNil))) (sApp i f) := by
  subst hK
  exact ⟨ps_expr pe hs, rds_app i h.rd⟩
/-- x.pop(), its value dropped -/
def sPop (i : Nat) : Sx := fun S e => match S[i]? with
  | some (some ⟨.own, .lst us⟩) => if us = [] then none else some (.nx, S.set i (some ⟨.own, .lst us.dropLast⟩), e)
  | _ => none
end
end DL

set_option Elab.async false
set_option linter.all false
set_option maxRecDepth 100000
set_option maxHeartbeats 1000000
namespace DL
open PySem PySem.Spec PyProof.Rows L2

/-! ### data as the kit's data -/
mutual
def T.py : T → Option PyData
  | .non => some .none
  | .bl b => some (.bool b)
  | .int i => some (.int i)
  | .str x => some (.str x)
  | .tup us => (T.pyL us).map PyData.tuple
  | .lst us => (T.pyL us).map PyData.list
  | _ => none
def T.pyL : List T → Option (List PyData)
  | [] => some []
  | t :: us => t.py.bind fun d => (T.pyL us).map fun ds => d :: ds
end
section
variable {K : PySem.W.Frag} {p : Addr} {H : Hp}
mutual
theorem Vw.dp {v : V} {t : T} {A : List Addr} : Vw K p H v t A → ∀ d, t.py = some d → Dp K H v d
  | .non, d, e => by cases e; exact .non
  | .bl b, d, e => by cases e; exact .bl b
  | .int i, d, e => by cases e; exact .int i
  | .str x, d, e => by cases e; exact .str x
  | .src, d, e => by cases e
  | .tup h r, d, e => by
    simp only [T.py, Option.map_eq_some_iff] at e
    obtain ⟨ds, e1, rfl⟩ := e
    exact .tup h.t (VwL.dp r ds e1)
  | .lst h r, d, e => by
    simp only [T.py, Option.map_eq_some_iff] at e
    obtain ⟨ds, e1, rfl⟩ := e
    exact .lst (SqL.of h) (VwL.dp r ds e1)
  | .dct h _ r, d, e => by cases e
  | .obj h r, d, e => by cases e
theorem VwL.dp {vs : List V} {us : List T} {A : List Addr} : VwL K p H vs us A → ∀ ds, T.pyL us = some ds → DpAll K H vs ds
  | .nil, ds, e => by cases e; exact .nil
  | .cons h r, ds, e => by
    simp only [T.pyL, Option.bind_eq_some_iff, Option.map_eq_some_iff] at e
    obtain ⟨d, e1, es, e2, rfl⟩ := e
    exact .cons (h.dp d e1) (VwL.dp r es e2)
end
/-- a kind of data that == tells apart -/
structure En {α : Type} [DecidableEq α] (f : α → T) (n : Nat) : Prop where
  ex : ∃ g : α → PyData, (∀ a, (f a).py = some (g a)) ∧ (∀ a, (g a).canLay0 = true) ∧ (∀ a, (g a).depth ≤ n) ∧ ∀ a b, PyData.eqv (g a) (g b) = decide (a = b)
theorem en_int : En T.int 0 := ⟨PyData.int, fun _ => rfl, fun _ => rfl, fun _ => by simp [PyData.depth], fun a b => by
  show (a == b) = _
  rw [Bool.eq_iff_iff]
  simp⟩
theorem en_bl : En T.bl 0 := ⟨PyData.bool, fun _ => rfl, fun _ => rfl, fun _ => by simp [PyData.depth], fun a b => by
  show (a == b) = _
  rw [Bool.eq_iff_iff]
  simp⟩
section
variable {α β : Type} [DecidableEq α] [DecidableEq β] {f : α → T} {h : β → T} {n m : Nat}
theorem enL (e : En f n) : ∃ g : α → PyData, (∀ as : List α, T.pyL (as.map f) = some (as.map g)) ∧ (∀ as : List α, PyData.canLayAll0 (as.map g) = true) ∧ (∀ as : List α, PyData.depthAll (as.map g) ≤ n) ∧ ∀ as bs : List α, PyData.eqvAll (as.map g) (bs.map g) = decide (as = bs) := by
  obtain ⟨g, h1, h2, h3, h4⟩ := e.ex
  refine ⟨g, fun as => ?_, fun as => ?_, fun as => ?_, fun as => ?_⟩
  · induction as with
    | nil => rfl
    | cons a as ih => simp only [List.map_cons, T.pyL, h1 a, ih, Option.bind_some, Option.map_some]
  · induction as with
    | nil => rfl
    | cons a as ih => simp only [List.map_cons, PyData.canLayAll0, h2 a, ih, Bool.and_self]
  · induction as with
    | nil => simp [PyData.depthAll]
    | cons a as ih =>
      simp only [List.map_cons, PyData.depthAll]
      have := h3 a
      omega
  · induction as with
    | nil => intro bs; cases bs <;> simp [PyData.eqvAll]
    | cons a as ih =>
      intro bs
      cases bs with
      | nil => simp [PyData.eqvAll]
      | cons b bs =>
        simp only [List.map_cons, PyData.eqvAll, h4 a b, ih bs]
        rw [Bool.eq_iff_iff]
        simp
theorem en_tup (e : En f n) : En (fun as : List α => T.tup (as.map f)) (n + 1) := by
  obtain ⟨g, h1, h2, h3, h4⟩ := enL e
  refine ⟨fun as => .tuple (as.map g), fun as => ?_, fun as => ?_, fun as => ?_, fun as bs => ?_⟩
  · simp only [T.py, h1 as, Option.map_some]
  · simp only [PyData.canLay0, h2 as]
  · have := h3 as
    simp only [PyData.depth]
    omega
  · simp only [PyData.eqv, h4 as bs]
theorem en_lst (e : En f n) : En (fun as : List α => T.lst (as.map f)) (n + 1) := by
  obtain ⟨g, h1, h2, h3, h4⟩ := enL e
  refine ⟨fun as => .list (as.map g), fun as => ?_, fun as => ?_, fun as => ?_, fun as bs => ?_⟩
  · simp only [T.py, h1 as, Option.map_some]
  · simp only [PyData.canLay0, h2 as]
  · have := h3 as
    simp only [PyData.depth]
    omega
  · simp only [PyData.eqv, h4 as bs]
theorem en_pair (e : En f n) (d : En h m) : En (fun ab : α × β => T.tup [f ab.1, h ab.2]) (max n m + 1) := by
  obtain ⟨g, h1, h2, h3, h4⟩ := e.ex
  obtain ⟨k, j1, j2, j3, j4⟩ := d.ex
  refine ⟨fun ab => .tuple [g ab.1, k ab.2], fun as => ?_, fun as => ?_, fun as => ?_, fun as bs => ?_⟩
  · simp only [T.py, T.pyL, h1, j1, Option.map_some, Option.bind_some]
  · simp only [PyData.canLay0, PyData.canLayAll0, h2, j2, Bool.and_self]
  · have := h3 as.1
    have := j3 as.2
    simp only [PyData.depth, PyData.depthAll]
    omega
  · simp only [PyData.eqv, PyData.eqvAll, h4, j4]
    rw [Bool.eq_iff_iff]
    obtain ⟨a, b⟩ := as
    obtain ⟨c, d⟩ := bs
    simp
end
end

/-! ### operators on data -/
section
variable {K : PySem.W.Frag}
theorem OQ.flat0 {p : Addr} {H : Hp} {C : List Addr} {n : Bool} {t : T} {v : V} (h : Vw K p H v t []) : OQ K p H C n t v H [] :=
  ⟨h, Same.refl H, fun _ => ⟨List.nodup_nil, fun a m => absurd m List.not_mem_nil⟩, fun a m => absurd m List.not_mem_nil⟩
theorem OQ.part {p : Addr} {H : Hp} {C B : List Addr} {t : T} {v : V} (h : Vw K p H v t B) (s : ∀ a ∈ B, a ∈ C) : OQ K p H C false t v H B :=
  ⟨h, Same.refl H, (fun z => nomatch z), fun a m => .inl (s a m)⟩
def g2i (f : Int → Int → Option T) : G2
  | .int i, .int j => (f i j).map fun t => (true, t)
  | _, _ => none
theorem o2_int {C : Int → Int → Prop} {g : Int → Int → V} {f : Int → Int → Option T} (h : ∀ i j t, f i j = some t → C i j ∧ ∀ p H, Vw K p H (g i j) t []) : O2 K (rI C g) (g2i f) := fun p H x y tx ty B D n t Q hx hy hg k => by
  cases hx <;> simp only [g2i, reduceCtorEq] at hg
  rename_i i
  cases hy <;> simp only [g2i, reduceCtorEq] at hg
  rename_i j
  rw [Option.map_eq_some_iff] at hg
  obtain ⟨u, e, e1⟩ := hg
  cases e1
  obtain ⟨h1, h2⟩ := h i j t e
  exact ⟨i, j, rfl, rfl, h1, k _ _ _ (OQ.flat0 (h2 p H))⟩
theorem o2_int0 {g : Int → Int → V} {f : Int → Int → T} (h : ∀ i j p H, Vw K p H (g i j) (f i j) []) : O2 K (rI0 g) (g2i fun i j => some (f i j)) := fun p H x y tx ty B D n t Q hx hy hg k => by
  cases hx <;> simp only [g2i, reduceCtorEq] at hg
  rename_i i
  cases hy <;> simp only [g2i, reduceCtorEq] at hg
  rename_i j
  simp only [Option.map_some, Option.some.injEq, Prod.mk.injEq] at hg
  obtain ⟨rfl, rfl⟩ := hg
  exact ⟨i, j, rfl, rfl, k _ _ _ (OQ.flat0 (h i j p H))⟩
def gSub : G2 := g2i fun i j => some (.int (i - j))
theorem o_sub : O2 K (rI0 fun i j => .int (i - j)) gSub := o2_int0 fun i j _ _ => .int _
def gLt : G2 := g2i fun i j => some (.bl (decide (i < j)))
def gLe : G2 := g2i fun i j => some (.bl (decide (i ≤ j)))
def gGt : G2 := g2i fun i j => some (.bl (decide (j < i)))
def gGe : G2 := g2i fun i j => some (.bl (decide (j ≤ i)))
theorem o_lt : O2 K (rI0 fun i j => .bl (decide (i < j))) gLt := o2_int0 fun i j _ _ => .bl _
theorem o_le : O2 K (rI0 fun i j => .bl (decide (i ≤ j))) gLe := o2_int0 fun i j _ _ => .bl _
theorem o_gt : O2 K (rI0 fun i j => .bl (decide (j < i))) gGt := o2_int0 fun i j _ _ => .bl _
theorem o_ge : O2 K (rI0 fun i j => .bl (decide (j ≤ i))) gGe := o2_int0 fun i j _ _ => .bl _
def gDiv : G2 := g2i fun i j => if 0 < j ∧ j < 1073741824 then some (.int (i / j)) else none
theorem o_div : O2 K (rI CDiv fun i j => .int (i / j)) gDiv := o2_int fun i j t e => by
  by_cases h : 0 < j ∧ j < 1073741824
  · rw [if_pos h] at e; cases e; exact ⟨h, fun _ _ => .int _⟩
  · rw [if_neg h] at e; cases e
def gMod : G2 := g2i fun i j => if 0 < j then some (.int (i % j)) else none
theorem o_mod : O2 K (rI (fun _ j => 0 < j) fun i j => .int (i % j)) gMod := o2_int fun i j t e => by
  by_cases h : 0 < j
  · rw [if_pos h] at e; cases e; exact ⟨h, fun _ _ => .int _⟩
  · rw [if_neg h] at e; cases e
theorem o2_or {r r' : R2} {g g' : G2} (h : O2 K r g) (h' : O2 K r' g') : O2 K (fun x y H Q => r x y H Q ∨ r' x y H Q) (fun x y => (g x y).orElse fun _ => g' x y) := fun p H x y tx ty B D n t Q hx hy hg k => by
  cases e : g tx ty with
  | some z =>
    simp only [e, Option.orElse_some, Option.some.injEq] at hg
    subst hg
    exact .inl (h p H x y tx ty B D n t Q hx hy e k)
  | none =>
    simp only [e, Option.orElse_none] at hg
    exact .inr (h' p H x y tx ty B D n t Q hx hy hg k)
theorem o2_imp {r r' : R2} {g : G2} (h : O2 K r g) (i : ∀ x y H Q, r x y H Q → r' x y H Q) : O2 K r' g := fun p H x y tx ty B D n t Q hx hy hg k => i _ _ _ _ (h p H x y tx ty B D n t Q hx hy hg k)
theorem o2_g {r : R2} {g g' : G2} (h : O2 K r g) (i : ∀ x y z, g' x y = some z → g x y = some z) : O2 K r g' := fun p H x y tx ty B D n t Q hx hy hg k => h p H x y tx ty B D n t Q hx hy (i _ _ _ hg) k
def gCatT : G2
  | .tup xs, .tup ys => if xs.length + ys.length ≤ sizeLine then some (true, .tup (xs ++ ys)) else none
  | _, _ => none
def rCatF (K : PySem.W.Frag) : R2 := fun x y H Q => ∃ a b xs ys, x = .ref a ∧ y = .ref b ∧ SqT K H a xs ∧ SqT K H b ys ∧ xs.length + ys.length ≤ sizeLine ∧
  (xs = [] → Q (.ref b) H) ∧ (xs ≠ [] → ys = [] → Q (.ref a) H) ∧ (xs ≠ [] → ys ≠ [] → ∀ (p : Addr) (o : Obj), H p = none → o.dict = none → Q (.ref p) (upd H p (.frz o (.tup (xs ++ ys)))))
theorem op_catF {X : Cx} : OpR X (binaryOp .Add) (rCatF X.K) := by
  intro pins s σ H x y v u Q I rx ry h
  obtain ⟨a, b, xs, ys, rfl, rfl, ha, hb, hz, q0, q1, q2⟩ := h
  cases rx
  cases ry
  obtain ⟨its, r1, p1, _⟩ := I.tuple ha
  obtain ⟨its2, r2, p2, _⟩ := I.tuple hb
  by_cases hx : xs = []
  · subst hx
    cases r1
    exact L2.cat_tup0 p1 p2 ⟨.ref b, H, I, rfl, q0 rfl⟩
  · refine HT.cat_tup p1 p2 (fun z => hx (r1.nil_iff.mp z)) (fun z => ⟨.ref a, H, I, rfl, q1 hx (r2.nil_iff.mp z)⟩) (fun z => ?_) (by rw [← r1.length, ← r2.length]; exact hz)
    exact ⟨.ref s.heap.objs.size, _, laid_frz (t' := s.toks) I (fun b ob q => Heap.get?_push_of_some _ q) (Nat.le_refl _) (Heap.get?_push_size _ rfl) rfl rfl (r1.append r2) (by rw [List.length_append]; exact hz), rfl, q2 hx (fun w => z (r2.nil_iff.mpr w)) _ _ (I.hok.fresh (Nat.le_refl _)) rfl⟩
theorem o_catT : O2 K (rCatF K) gCatT := fun p H x y tx ty B D n t Q hx hy hg k => by
  cases hx with
  | @tup a vs us h1 h2 =>
    cases hy with
    | @tup b ws vs2 h3 h4 =>
      simp only [gCatT] at hg
      split at hg
      · rename_i hz
        cases hg
        refine ⟨a, b, vs, ws, rfl, rfl, h1.t, h3.t, by rw [h2.length, h4.length]; exact hz, fun e => ?_, fun _ e => ?_, fun _ _ q o hq ho => ?_⟩
        · subst e
          cases h2
          exact k _ _ _ (OQ.flat0 (.tup h3 h4))
        · subst e
          cases h4
          exact k _ _ _ (OQ.flat0 (by rw [List.append_nil]; exact .tup h1 h2))
        · exact k _ _ [] (OQ.tup (h2.app h4) hq ho)
      · cases hg
    | _ => simp only [gCatT, reduceCtorEq] at hg
  | _ => simp only [gCatT, reduceCtorEq] at hg
def gCatL : G2
  | .lst xs, .lst ys => if xs.length + ys.length ≤ sizeLine then some (xs.all T.flat && ys.all T.flat, .lst (xs ++ ys)) else none
  | _, _ => none
theorem o_catL : O2 K rCat gCatL := fun p H x y tx ty B D n t Q hx hy hg k => by
  cases hx with
  | @lst a vs us A h1 h2 =>
    cases hy with
    | @lst b ws vs2 A2 h3 h4 =>
      simp only [gCatL] at hg
      split at hg
      · rename_i hz
        cases hg
        refine ⟨a, b, vs, ws, rfl, rfl, h1, h3, by rw [h2.length, h4.length]; exact hz, fun q hq => ?_⟩
        refine k _ _ _ (OQ.lst _ (h2.app h4) hq (fun e => ?_) fun c m => ?_)
        · rw [Bool.and_eq_true] at e
          rw [h2.flat e.1, h4.flat e.2]
          exact ⟨List.nodup_nil, fun a m => absurd m List.not_mem_nil⟩
        · rcases List.mem_append.mp m with m | m
          · exact List.mem_append_left _ (List.mem_cons_of_mem _ m)
          · exact List.mem_append_right _ (List.mem_cons_of_mem _ m)
      · cases hg
    | _ => simp only [gCatL, reduceCtorEq] at hg
  | _ => simp only [gCatL, reduceCtorEq] at hg
def gAdd : G2
  | .int i, .int j => some (true, .int (i + j))
  | .tup xs, .tup ys => if xs.length + ys.length ≤ sizeLine then some (true, .tup (xs ++ ys)) else none
  | .lst xs, .lst ys => if xs.length + ys.length ≤ sizeLine then some (xs.all T.flat && ys.all T.flat, .lst (xs ++ ys)) else none
  | _, _ => none
def rAddD (K : PySem.W.Frag) : R2 := fun x y H Q => rI0 (fun i j => .int (i + j)) x y H Q ∨ rCatF K x y H Q ∨ rCat x y H Q
theorem o_add : O2 K (rAddD K) gAdd := fun p H x y tx ty B D n t Q hx hy hg k => by
  cases tx with
  | int i =>
    cases ty with
    | int j => exact .inl (o2_int0 (K := K) (g := fun i j => .int (i + j)) (f := fun i j => .int (i + j)) (fun i j _ _ => .int _) p H x y _ _ B D n t Q hx hy hg k)
    | _ => simp only [gAdd, reduceCtorEq] at hg
  | tup us =>
    cases ty with
    | tup vs => exact .inr (.inl (o_catT p H x y _ _ B D n t Q hx hy hg k))
    | _ => simp only [gAdd, reduceCtorEq] at hg
  | lst us =>
    cases ty with
    | lst vs => exact .inr (.inr (o_catL p H x y _ _ B D n t Q hx hy hg k))
    | _ => simp only [gAdd, reduceCtorEq] at hg
  | _ => simp only [gAdd, reduceCtorEq] at hg
theorem opr_add {X : Cx} : OpR X (binaryOp .Add) (rAddD X.K) := op_add.or (op_catF.or op_cat)
/-! products -/
def gMul : G2
  | .int i, .int j => if (-(2 ^ 64) < i ∧ i < 2 ^ 64) ∨ (-(2 ^ 64) < j ∧ j < 2 ^ 64) then some (true, .int (i * j)) else none
  | .lst xs, .int j => if xs.all T.flat = true ∧ -(2 ^ 63) ≤ j ∧ j < 2 ^ 63 ∧ xs.length * j.toNat ≤ sizeLine then some (true, .lst (List.replicate j.toNat xs).flatten) else none
  | _, _ => none
def rMulD : R2 := fun x y H Q => rI CMul (fun i j => .int (i * j)) x y H Q ∨ rRep x y H Q
theorem VwL.repl {p : Addr} {H : Hp} {vs : List V} {us : List T} (h : VwL K p H vs us []) : ∀ n : Nat, VwL K p H (List.replicate n vs).flatten (List.replicate n us).flatten []
  | 0 => .nil
  | n + 1 => by
    rw [List.replicate_succ, List.replicate_succ, List.flatten_cons, List.flatten_cons]
    exact h.app (h.repl n)
theorem o_mul : O2 K rMulD gMul := fun p H x y tx ty B D n t Q hx hy hg k => by
  cases tx with
  | int i =>
    cases ty with
    | int j => exact .inl (o2_int (K := K) (C := CMul) (g := fun i j => .int (i * j)) (f := fun i j => if (-(2 ^ 64) < i ∧ i < 2 ^ 64) ∨ (-(2 ^ 64) < j ∧ j < 2 ^ 64) then some (.int (i * j)) else none) (fun i j t e => by
        split at e
        · rename_i h; cases e; exact ⟨h, fun _ _ => .int _⟩
        · cases e) p H x y _ _ B D n t Q hx hy (by
          simp only [gMul] at hg
          simp only [g2i]
          split at hg
          · rename_i h; cases hg; rw [if_pos h]; rfl
          · cases hg) k)
    | _ => simp only [gMul, reduceCtorEq] at hg
  | lst us =>
    cases ty with
    | int j =>
      simp only [gMul] at hg
      split at hg
      · rename_i hz
        cases hg
        cases hx with
        | @lst a vs _ A h1 h2 =>
          cases hy
          have e := h2.flat hz.1
          subst e
          refine .inr ⟨a, j, vs, rfl, rfl, h1, hz.2.1, hz.2.2.1, by rw [h2.length]; exact hz.2.2.2, fun q hq => ?_⟩
          exact k _ _ _ (OQ.lst true (h2.repl _) hq (fun _ => ⟨List.nodup_nil, fun a m => absurd m List.not_mem_nil⟩) fun c m => absurd m List.not_mem_nil)
      · cases hg
    | _ => simp only [gMul, reduceCtorEq] at hg
  | _ => simp only [gMul, reduceCtorEq] at hg
theorem opr_mul {X : Cx} : OpR X (binaryOp .Mult) rMulD := op_mul.or op_rep
/-! == and != -/
def gEqB (neg : Bool) : G2 := fun x y => x.py.bind fun d => y.py.bind fun e => if SeqAt.shaped d = true ∧ SeqAt.shaped e = true then some (true, .bl (if neg then !PyData.eqv d e else PyData.eqv d e)) else none
def gEq : G2 := gEqB false
def gNe : G2 := gEqB true
theorem o_eqB {neg : Bool} {r : R2} (hr : ∀ x y H Q d e, Dp K H x d → Dp K H y e → SeqAt.shaped d = true → SeqAt.shaped e = true → Q (.bl (if neg then !PyData.eqv d e else PyData.eqv d e)) H → r x y H Q) : O2 K r (gEqB neg) := fun p H x y tx ty B D n t Q hx hy hg k => by
  simp only [gEqB, Option.bind_eq_some_iff] at hg
  obtain ⟨d, e1, e, e2, hg⟩ := hg
  split at hg
  · rename_i hz
    cases hg
    exact hr x y H Q d e (hx.dp d e1) (hy.dp e e2) hz.1 hz.2 (k _ _ _ (OQ.flat0 (.bl _)))
  · cases hg
theorem o_eq : O2 K (rEqD K) gEq := o_eqB fun x y H Q d e h1 h2 h3 h4 q => ⟨d, e, h1, h2, h3, h4, q⟩
theorem o_ne : O2 K (rNeD K) gNe := o_eqB fun x y H Q d e h1 h2 h3 h4 q => ⟨d, e, h1, h2, h3, h4, q⟩
theorem room_eq {j : Nat} {A : Around} (h : Room j A) : A.units + 64 < cLine := by have := h.un; omega
theorem gEqB_en {α : Type} [DecidableEq α] {f : α → T} {n : Nat} (h : En f n) (hn : n ≤ 64) (neg : Bool) (a b : α) : gEqB neg (f a) (f b) = some (true, .bl (if neg then !decide (a = b) else decide (a = b))) := by
  obtain ⟨g, h1, h2, h3, h4⟩ := h.ex
  have sh : ∀ a, SeqAt.shaped (g a) = true := fun a => by
    unfold SeqAt.shaped
    rw [h2 a, Bool.true_and]
    exact decide_eq_true (Nat.le_trans (h3 a) hn)
  simp only [gEqB, h1, Option.bind_some, sh, and_self, if_true, h4]
theorem gEq_en {α : Type} [DecidableEq α] {f : α → T} {n : Nat} (h : En f n) (hn : n ≤ 64) (a b : α) : gEq (f a) (f b) = some (true, .bl (decide (a = b))) := gEqB_en h hn false a b
theorem gNe_en {α : Type} [DecidableEq α] {f : α → T} {n : Nat} (h : En f n) (hn : n ≤ 64) (a b : α) : gNe (f a) (f b) = some (true, .bl (!decide (a = b))) := gEqB_en h hn true a b
/-! is None -/
def T.isNon : T → Bool
  | .non => true
  | _ => false
def gIsN (neg : Bool) : G2
  | x, .non => some (true, .bl (if neg then !x.isNon else x.isNon))
  | _, _ => none
theorem isNon_dec {p : Addr} {H : Hp} {x : V} {tx : T} {B : List Addr} (h : Vw K p H x tx B) : decide (x = .non) = tx.isNon := by
  cases h <;> simp [T.isNon]
theorem o_isN : O2 K (fun x y H Q => y = .non ∧ Q (.bl (decide (x = .non))) H) (gIsN false) := fun p H x y tx ty B D n t Q hx hy hg k => by
  cases hy <;> simp only [gIsN, reduceCtorEq, Option.some.injEq, Prod.mk.injEq] at hg
  obtain ⟨rfl, rfl⟩ := hg
  refine ⟨rfl, ?_⟩
  rw [isNon_dec hx]
  exact k _ _ _ (OQ.flat0 (.bl _))
theorem o_notN : O2 K (fun x y H Q => y = .non ∧ Q (.bl (!decide (x = .non))) H) (gIsN true) := fun p H x y tx ty B D n t Q hx hy hg k => by
  cases hy <;> simp only [gIsN, reduceCtorEq, Option.some.injEq, Prod.mk.injEq] at hg
  obtain ⟨rfl, rfl⟩ := hg
  refine ⟨rfl, ?_⟩
  rw [isNon_dec hx]
  exact k _ _ _ (OQ.flat0 (.bl _))
/-! -x -/
def gNeg : G1
  | .int i => some (true, .int (-i))
  | _ => none
theorem o_neg : O1 K (rU fun i => .int (-i)) gNeg := fun p H x tx B n t Q hx hg k => by
  cases hx <;> simp only [gNeg, reduceCtorEq, Option.some.injEq, Prod.mk.injEq] at hg
  obtain ⟨rfl, rfl⟩ := hg
  exact ⟨_, rfl, k _ _ _ (OQ.flat0 (.int _))⟩
/-! x[i] -/
def gIx : G2
  | .tup us, .int i => (atI us i).map fun t => (false, t)
  | .lst us, .int i => (atI us i).map fun t => (false, t)
  | _, _ => none
theorem VwL.at {p : Addr} {H : Hp} {vs : List V} {us : List T} {A : List Addr} {i : Int} {t : T} (h : VwL K p H vs us A) (e : atI us i = some t) : ∃ v B, atI vs i = some v ∧ Vw K p H v t B ∧ ∀ a ∈ B, a ∈ A := by
  unfold atI at e ⊢
  rw [h.length]
  cases q : ixN us.length i with
  | none => rw [q] at e; cases e
  | some j =>
    rw [q, Option.bind_some] at e
    obtain ⟨v, B, h1, h2, h3⟩ := h.get e
    exact ⟨v, B, by rw [Option.bind_some]; exact h1, h2, h3⟩
theorem o_ix : O2 K (rIx K) gIx := fun p H x y tx ty B D n t Q hx hy hg k => by
  cases hx with
  | @tup a vs us h1 h2 =>
    cases hy <;> simp only [gIx, reduceCtorEq] at hg
    rename_i i
    rw [Option.map_eq_some_iff] at hg
    obtain ⟨u, e, e1⟩ := hg
    cases e1
    obtain ⟨v, B', q1, q2, q3⟩ := h2.at e
    exact .inr (.inl ⟨a, vs, i, v, rfl, rfl, h1.t, q1, k _ _ _ (OQ.part q2 fun b m => absurd (q3 b m) List.not_mem_nil)⟩)
  | @lst a vs us A h1 h2 =>
    cases hy <;> simp only [gIx, reduceCtorEq] at hg
    rename_i i
    rw [Option.map_eq_some_iff] at hg
    obtain ⟨u, e, e1⟩ := hg
    cases e1
    obtain ⟨v, B', q1, q2, q3⟩ := h2.at e
    exact .inl ⟨a, vs, i, v, rfl, rfl, SqL.of h1, q1, k _ _ _ (OQ.part q2 fun b m => List.mem_append_left _ (List.mem_cons_of_mem _ (q3 b m)))⟩
  | _ => simp only [gIx, reduceCtorEq] at hg
/-! x[lo:hi] -/
def cutT {α : Type} (xs : List α) (lo hi : Option Int) : List α := (xs.drop (HT.sIx xs.length 0 lo)).take (HT.sIx xs.length xs.length hi - HT.sIx xs.length 0 lo)
theorem VwL.drop {p : Addr} {H : Hp} {vs : List V} {us : List T} {A : List Addr} : VwL K p H vs us A → ∀ n : Nat, ∃ B, VwL K p H (vs.drop n) (us.drop n) B ∧ (∀ a ∈ B, a ∈ A) ∧ (A.Nodup → B.Nodup)
  | h, 0 => ⟨A, h, fun _ m => m, fun n => n⟩
  | .nil, n + 1 => ⟨[], .nil, fun _ m => m, fun n => n⟩
  | .cons h r, n + 1 => by
    obtain ⟨B, q1, q2, q3⟩ := VwL.drop r n
    exact ⟨B, q1, fun a m => List.mem_append_right _ (q2 a m), fun n => q3 (List.nodup_append.mp n).2.1⟩
theorem VwL.take {p : Addr} {H : Hp} {vs : List V} {us : List T} {A : List Addr} : VwL K p H vs us A → ∀ n : Nat, ∃ B, VwL K p H (vs.take n) (us.take n) B ∧ (∀ a ∈ B, a ∈ A) ∧ (A.Nodup → B.Nodup)
  | h, 0 => ⟨[], .nil, (fun a m => absurd m List.not_mem_nil), fun _ => List.nodup_nil⟩
  | .nil, n + 1 => ⟨[], .nil, fun _ m => m, fun n => n⟩
  | .cons (A := A) (B := B) h r, n + 1 => by
    obtain ⟨B', q1, q2, q3⟩ := VwL.take r n
    refine ⟨A ++ B', .cons h q1, fun a m => ?_, fun n => ?_⟩
    · rcases List.mem_append.mp m with m | m
      · exact List.mem_append_left _ m
      · exact List.mem_append_right _ (q2 a m)
    · have := List.nodup_append.mp n
      exact List.nodup_append.mpr ⟨this.1, q3 this.2.1, fun a ma b mb => this.2.2 a ma b (q2 b mb)⟩
theorem VwL.cut {p : Addr} {H : Hp} {vs : List V} {us : List T} {A : List Addr} (h : VwL K p H vs us A) (lo hi : Option Int) : ∃ B, VwL K p H (cutV vs lo hi) (cutT us lo hi) B ∧ (∀ a ∈ B, a ∈ A) := by
  unfold cutV cutT
  rw [h.length]
  obtain ⟨B, q1, q2, _⟩ := h.drop (HT.sIx us.length 0 lo)
  obtain ⟨C, r1, r2, _⟩ := q1.take (HT.sIx us.length us.length hi - HT.sIx us.length 0 lo)
  exact ⟨C, r1, fun a m => q2 a (r2 a m)⟩
def gSl : G3
  | .tup us, lo, hi => some (true, .tup (cutT us lo hi))
  | .lst us, lo, hi => some (us.all T.flat, .lst (cutT us lo hi))
  | _, _, _ => none
/-- t[lo:hi]: the whole of it is t itself -/
def rSlF (K : PySem.W.Frag) : V → Option Int → Option Int → Hp → VK → Prop := fun x lo hi H Q => ∃ a xs, x = .ref a ∧ SqT K H a xs ∧
  (HT.sIx xs.length 0 lo = 0 ∧ HT.sIx xs.length xs.length hi = xs.length → Q (.ref a) H) ∧ (¬ (HT.sIx xs.length 0 lo = 0 ∧ HT.sIx xs.length xs.length hi = xs.length) → ∀ (p : Addr) (o : Obj), H p = none → o.dict = none → Q (.ref p) (upd H p (.frz o (.tup (cutV xs lo hi)))))
theorem sl_tupF {X : Cx} : SlR X (rSlF X.K) := by
  intro pins s σ H x v vl vu lo hi sl Q I rx hs pl pu h
  obtain ⟨a, xs, rfl, hx, q1, q2⟩ := h
  cases rx
  obtain ⟨its, r, ht, hz⟩ := I.tuple hx
  have hlen : its.toArray.size = xs.length := by rw [List.size_toArray]; exact r.length.symm
  refine ⟨"tuple", _, PyProof.Rows.slot_tuple_getitem.lookup, ht.typeIs, ?_⟩
  by_cases hw : HT.sIx xs.length 0 lo = 0 ∧ HT.sIx xs.length xs.length hi = xs.length
  · exact L2.getItem_tuple_whole ht hs pl pu (by rw [hlen]; exact hw) ⟨.ref a, H, I, rfl, q1 hw⟩
  · refine HT.getItem_tuple_cut ht hs pl pu (by rw [hlen]; exact hw) ?_ (by rw [hlen]; exact hz)
    rw [hlen]
    exact ⟨.ref s.heap.objs.size, _, laid_frz (t' := s.toks) I (fun b ob q => Heap.get?_push_of_some _ q) (Nat.le_refl _) (Heap.get?_push_size _ rfl) rfl rfl ((r.drop (HT.sIx xs.length 0 lo)).take (HT.sIx xs.length xs.length hi - HT.sIx xs.length 0 lo)) (Nat.le_trans (cutV_length xs lo hi) hz), rfl, q2 hw _ _ (I.hok.fresh (Nat.le_refl _)) rfl⟩
def rSlD (K : PySem.W.Frag) : V → Option Int → Option Int → Hp → VK → Prop := fun x lo hi H Q => rSlF K x lo hi H Q ∨ rSlL K x lo hi H Q
theorem slr : ∀ {X : Cx}, SlR X (rSlD X.K) := sl_tupF.or sl_list
theorem cut_all {us : List T} {lo hi : Option Int} (h : HT.sIx us.length 0 lo = 0 ∧ HT.sIx us.length us.length hi = us.length) : cutT us lo hi = us := by
  unfold cutT
  rw [h.1, h.2]
  simp
theorem all_sub {us vs : List T} (h : us.all T.flat = true) (s : ∀ t ∈ vs, t ∈ us) : vs.all T.flat = true := List.all_eq_true.mpr fun t m => List.all_eq_true.mp h t (s t m)
theorem o_sl : O3 K (rSlD K) gSl := fun p H x tx lo hi B n t Q hx hg k => by
  cases hx with
  | @tup a vs us h1 h2 =>
    simp only [gSl, Option.some.injEq, Prod.mk.injEq] at hg
    obtain ⟨rfl, rfl⟩ := hg
    obtain ⟨C, q1, q2⟩ := h2.cut lo hi
    have e : C = [] := List.eq_nil_iff_forall_not_mem.mpr fun b m => absurd (q2 b m) List.not_mem_nil
    subst e
    refine .inl ⟨a, vs, rfl, h1.t, fun e => ?_, fun e q o hq ho => ?_⟩
    · rw [h2.length] at e
      refine k _ _ _ (OQ.flat0 ?_)
      rw [cut_all e]
      exact .tup h1 h2
    · exact k _ _ [] (OQ.tup q1 hq ho)
  | @lst a vs us A h1 h2 =>
    simp only [gSl, Option.some.injEq, Prod.mk.injEq] at hg
    obtain ⟨rfl, rfl⟩ := hg
    obtain ⟨C, q1, q2⟩ := h2.cut lo hi
    refine .inr ⟨a, vs, rfl, SqL.of h1, fun q hq => k _ _ _ (OQ.lst _ q1 hq (fun e => ?_) fun b m => List.mem_cons_of_mem _ (q2 b m))⟩
    have e1 := h2.flat e
    subst e1
    have e : C = [] := List.eq_nil_iff_forall_not_mem.mpr fun b m => absurd (q2 b m) List.not_mem_nil
    subst e
    exact ⟨List.nodup_nil, fun a m => absurd m List.not_mem_nil⟩
  | _ => simp only [gSl, reduceCtorEq] at hg
end
end DL

set_option Elab.async false
set_option linter.all false
set_option maxRecDepth 100000
set_option maxHeartbeats 1000000
namespace DL
open PySem PySem.Spec PyProof.Rows L2

/-! ### rows of ints -/
/-- a tuple of ints -/
abbrev tI (xs : List Int) : T := .tup (xs.map T.int)
/-- a list of ints -/
abbrev lI (xs : List Int) : T := .lst (xs.map T.int)
def T.int? : T → Option Int
  | .int i => some i
  | _ => none
def T.tI? : T → Option (List Int)
  | .tup us => us.mapM T.int?
  | _ => none
theorem mapM_enc {α : Type} {f : α → T} {d : T → Option α} (h : ∀ a, d (f a) = some a) (xs : List α) : (xs.map f).mapM d = some xs := by
  induction xs with
  | nil => rfl
  | cons x xs ih => rw [List.map_cons, List.mapM_cons, h x, ih]; rfl
theorem mapM_dec {α : Type} {f : α → T} {d : T → Option α} (h : ∀ t a, d t = some a → t = f a) : ∀ {us : List T} {xs : List α}, us.mapM d = some xs → us = xs.map f
  | [], xs, e => by
    rw [List.mapM_nil] at e
    cases e
    rfl
  | u :: us, xs, e => by
    rw [List.mapM_cons] at e
    cases h1 : d u with
    | none => rw [h1] at e; cases e
    | some a =>
      cases h2 : us.mapM d with
      | none => rw [h1, h2] at e; cases e
      | some as =>
        rw [h1, h2] at e
        cases e
        rw [List.map_cons, h u a h1, mapM_dec h h2]
theorem int?_enc (i : Int) : (T.int i).int? = some i := rfl
theorem int?_dec (t : T) (i : Int) (h : t.int? = some i) : t = .int i := by
  cases t <;> simp only [T.int?, reduceCtorEq, Option.some.injEq] at h
  rw [h]
theorem tI?_enc (xs : List Int) : (tI xs).tI? = some xs := mapM_enc int?_enc xs
theorem tI?_dec (t : T) (xs : List Int) (h : t.tI? = some xs) : t = tI xs := by
  cases t <;> simp only [T.tI?, reduceCtorEq] at h
  rw [mapM_dec int?_dec h]
theorem rows_enc (xs : List (List Int)) : (xs.map tI).mapM T.tI? = some xs := mapM_enc tI?_enc xs
theorem rows_dec {us : List T} {xs : List (List Int)} (h : us.mapM T.tI? = some xs) : us = xs.map tI := mapM_dec tI?_dec h

/-- v is a tuple of the ints ns -/
def Tp (K : PySem.W.Frag) (H : Hp) (v : V) (ns : List Int) : Prop := ∃ b, v = .ref b ∧ SqF H b (ns.map V.int)
inductive Tps (K : PySem.W.Frag) (H : Hp) : List V → List (List Int) → Prop
  | nil : Tps K H [] []
  | cons {v : V} {vs : List V} {ns : List Int} {nss : List (List Int)} : Tp K H v ns → Tps K H vs nss → Tps K H (v :: vs) (ns :: nss)
section
variable {K : PySem.W.Frag} {p : Addr} {H : Hp}
theorem vwl_ints : ∀ {ns : List Int} {vs : List V} {A : List Addr}, VwL K p H vs (ns.map T.int) A → vs = ns.map V.int
  | [], _, _, h => by cases h; rfl
  | n :: ns, _, _, h => by
    cases h with
    | cons h1 h2 =>
      cases h1
      rw [vwl_ints h2]
      rfl
theorem ints_vwl : ∀ ns : List Int, VwL K p H (ns.map V.int) (ns.map T.int) []
  | [] => .nil
  | n :: ns => .cons (.int n) (ints_vwl ns)
theorem vw_tp {v : V} {ns : List Int} {A : List Addr} (h : Vw K p H v (tI ns) A) : Tp K H v ns := by
  cases h with
  | tup h1 h2 =>
    rw [vwl_ints h2] at h1
    exact ⟨_, rfl, h1⟩
theorem tp_vw {v : V} {ns : List Int} (h : Tp K H v ns) : Vw K p H v (tI ns) [] := by
  obtain ⟨b, rfl, h⟩ := h
  exact .tup h (ints_vwl ns)
theorem vwl_tps : ∀ {nss : List (List Int)} {vs : List V} {A : List Addr}, VwL K p H vs (nss.map tI) A → Tps K H vs nss ∧ A = []
  | [], _, _, h => by cases h; exact ⟨.nil, rfl⟩
  | n :: ns, _, _, h => by
    cases h with
    | cons h1 h2 =>
      obtain ⟨q1, q2⟩ := vwl_tps h2
      rw [h1.flat rfl, q2]
      exact ⟨.cons (vw_tp h1) q1, rfl⟩
theorem tps_vwl : ∀ {vs : List V} {nss : List (List Int)}, Tps K H vs nss → VwL K p H vs (nss.map tI) []
  | _, _, .nil => .nil
  | _, _, .cons h r => .cons (tp_vw h) (tps_vwl r)
theorem Tps.at : ∀ {vs : List V} {nss : List (List Int)}, Tps K H vs nss → ∀ {i : Nat} {v : V}, vs[i]? = some v → ∃ ns, nss[i]? = some ns ∧ Tp K H v ns
  | _, _, .nil, i, v, e => by simp at e
  | _, _, .cons h r, 0, v, e => by
    have := Option.some.inj e
    subst this
    exact ⟨_, rfl, h⟩
  | _, _, .cons h r, i + 1, v, e => by
    obtain ⟨ns, q1, q2⟩ := r.at (i := i) (v := v) (by simpa using e)
    exact ⟨ns, by simpa using q1, q2⟩
theorem Tps.length : ∀ {vs : List V} {nss : List (List Int)}, Tps K H vs nss → vs.length = nss.length
  | _, _, .nil => rfl
  | _, _, .cons _ r => by rw [List.length_cons, List.length_cons, r.length]
theorem Tps.same {H' : Hp} (m : Same H H') : ∀ {vs : List V} {nss : List (List Int)}, Tps K H vs nss → Tps K H' vs nss
  | _, _, .nil => .nil
  | _, _, .cons ⟨b, e, h⟩ r => .cons ⟨b, e, SqF.stay h fun b o e _ => m b o e⟩ (r.same m)
end
section
variable {X : Cx} {pins : List (Addr × Obj)} {σ : L2.St} {H : Hp} {s : Shared}
theorem holds_tp (I : Inv X pins σ H s) {v : V} {ns : List Int} {u : Value} (h : Tp X.K H v ns) (r : RelV v u) : PySem.W.Holds s.heap u (PySem.W.Tup.mk ns) := by
  obtain ⟨b, rfl, h⟩ := h
  cases r
  obtain ⟨its, rv, ht, _⟩ := I.tuple (SqF.t (K := X.K) h)
  exact PySem.W.holds_tup ht (PySem.W.HoldAll.of_ints (intsAre_of rv))
theorem holdall_tps (I : Inv X pins σ H s) : ∀ {vs : List V} {nss : List (List Int)} {us : List Value}, Tps X.K H vs nss → Vals vs us → PySem.W.HoldAll s.heap us (nss.map PySem.W.Tup.mk)
  | _, _, _, .nil, r => by cases r; exact PySem.W.HoldAll.nil
  | _, _, _, .cons h q, r => by
    cases r with
    | cons r1 r2 => exact PySem.W.HoldAll.cons (holds_tp I h r1) (holdall_tps I q r2)
theorem holds_inj {h : Heap} {u : Value} {x y : PySem.W.Tup Int} (a : PySem.W.Holds h u x) (b : PySem.W.Holds h u y) : x = y := by
  obtain ⟨as, r1⟩ := a
  obtain ⟨bs, r2⟩ := b
  have e := PySem.W.alike_unique _ _ u as bs (PySem.W.DatumOrd.alike x y) r1 r2
  have q := PySem.W.Datum.eqv x y
  rw [e] at q
  have t := (PySem.W.Datum.eqv y y).symm.trans q
  rw [decide_eq_true rfl] at t
  exact of_decide_eq_true t.symm
theorem vals_back1 : ∀ {xs : List V} {us : List Value}, Vals xs us → ∀ {i : Nat} {u : Value}, us[i]? = some u → ∃ x, xs[i]? = some x ∧ RelV x u
  | _, _, .nil, i, u, e => by simp at e
  | _, _, .cons r _, 0, u, e => by
    have := Option.some.inj e
    subst this
    exact ⟨_, rfl, r⟩
  | _, _, .cons _ t, i + 1, u, e => by
    obtain ⟨x, h1, h2⟩ := vals_back1 t (i := i) (u := u) (by simpa using e)
    exact ⟨x, by simpa using h1, h2⟩
end
/-- the first of the least -/
def minL (x : List Int) (xs : List (List Int)) : List Int := (PySem.W.minOf (PySem.W.Tup.mk x) (xs.map PySem.W.Tup.mk)).items
/-- min(xs), xs a list of tuples of ints -/
def rMinT (K : PySem.W.Frag) : List V → Hp → VK → Prop := fun vs H Q => ∃ (a : Addr) (rows : List V) (x : List Int) (xs : List (List Int)), vs = [V.ref a] ∧ SqL K H a rows ∧ Tps K H rows (x :: xs) ∧ ∀ v, Tp K H v (minL x xs) → Q v H
theorem cr_minT {X : Cx} (hc : X.calm = true) (hu : X.A.units + 64 < cLine) : CallR X (.builtin "min") (rMinT X.K) := by
  intro pins s σ H vs us Q I r h
  obtain ⟨a, rows, x, xs, rfl, hs, hx, q⟩ := h
  obtain ⟨its, rv, hl, hz⟩ := I.list hs
  obtain ⟨u, rfl, ru⟩ := vals1 r
  obtain rfl : u = Value.ref a := ru
  have hA : X.A.handled = none := I.ok.hd hc
  have H1 := holdall_tps I hx rv
  refine PySem.W.min_list_datum (α := PySem.W.Tup Int) hA hl.isList (x := PySem.W.Tup.mk x) (xs := xs.map PySem.W.Tup.mk) H1 ?_ fun i v h' tk hi hh hk => ?_
  · have : PySem.W.Datum.depth (PySem.W.Tup Int) ≤ 2 := by decide
    omega
  · have hi' : its[i]? = some v := by simpa using hi
    obtain ⟨w, hw, rw1⟩ := vals_back1 rv hi'
    obtain ⟨ns, _, ht⟩ := hx.at hw
    have I' := I.kept (t' := tk) hk
    have e := holds_inj (holds_tp I' ht rw1) hh
    refine ⟨w, H, I', rw1, q w ?_⟩
    unfold minL
    rw [← e]
    exact ht

def encT (ns : List Int) : PyData := .tuple (ns.map PyData.int)
def sortL (nss : List (List Int)) : List (List Int) := nss.mergeSort (PySem.W.dataLe false encT)
theorem tps_each {K : PySem.W.Frag} {H : Hp} {hp : Heap} : ∀ {out : List Value} {nss : List (List Int)}, PySem.W.EachIs (fun u ns => ∃ b, u = Value.ref b ∧ SqF H b (ns.map V.int)) out nss → ∃ vs, Vals vs out ∧ Tps K H vs nss
  | _, _, .nil => ⟨[], .nil, .nil⟩
  | _, _, .cons ⟨b, e, h⟩ r => by
    obtain ⟨vs, q1, q2⟩ := tps_each (hp := hp) r
    subst e
    exact ⟨.ref b :: vs, .cons rfl q1, .cons ⟨b, rfl, h⟩ q2⟩
theorem each_tps {K : PySem.W.Frag} {H : Hp} : ∀ {vs : List V} {nss : List (List Int)} {us : List Value}, Tps K H vs nss → Vals vs us → PySem.W.EachIs (fun u ns => ∃ b, u = Value.ref b ∧ SqF H b (ns.map V.int)) us nss
  | _, _, _, .nil, r => by cases r; exact .nil
  | _, _, _, .cons ⟨b, e, h⟩ q, r => by
    cases r with
    | cons r1 r2 =>
      subst e
      have : _ = Value.ref b := r1
      exact .cons ⟨b, this, h⟩ (each_tps q r2)
theorem holdall_each {h : Heap} : ∀ {us : List Value} {nss : List (List Int)}, PySem.W.HoldAll h us (nss.map PySem.W.Tup.mk) → PySem.W.EachIs (fun u ns => ∃ as, Reads h u (encT ns) as) us nss
  | [], [], _ => .nil
  | [], _ :: _, q => absurd (PySem.W.HoldAll.length q) (by simp)
  | _ :: _, [], q => absurd (PySem.W.HoldAll.length q) (by simp)
  | u :: us, n :: ns, q => by
    obtain ⟨q1, q2⟩ := PySem.W.HoldAll.head q
    exact .cons q1 (holdall_each q2)
theorem sortL_length (nss : List (List Int)) : (sortL nss).length = nss.length := List.length_mergeSort _
/-- sorted(xs), xs a list of tuples of ints, none of them empty -/
def rSortT (K : PySem.W.Frag) : List V → Hp → VK → Prop := fun vs H Q => ∃ (a : Addr) (rows : List V) (nss : List (List Int)), vs = [V.ref a] ∧ SqL K H a rows ∧ Tps K H rows nss ∧ (∀ ns ∈ nss, ns ≠ []) ∧ ∀ rows' p, Tps K H rows' (sortL nss) → H p = none → Q (.ref p) (upd H p (.lst rows'))
theorem alike_encT (x y : List Int) : PySem.W.alike (encT x) (encT y) = true := PySem.W.DatumOrd.alike (PySem.W.Tup.mk x) (PySem.W.Tup.mk y)
theorem cr_sortT {X : Cx} (hu : X.A.units + 64 < cLine) : CallR X (.builtin "sorted") (rSortT X.K) := by
  intro pins s σ H vs us Q I r h
  obtain ⟨a, rows, nss, rfl, hs, hx, hne, q⟩ := h
  obtain ⟨its, rv, hl, hz⟩ := I.list hs
  obtain ⟨u, rfl, ru⟩ := vals1 r
  obtain rfl : u = Value.ref a := ru
  have H1 := holdall_tps I hx rv
  have hlen : nss.length = rows.length := hx.length.symm
  refine PySem.W.sorted_data (enc := encT) (bs := nss) hl.isList (each_tps hx rv) (holdall_each H1) ?_ ?_ (by omega) (fun ns hn => ?_) fun out ho he => ?_
  · exact PySem.W.AllAlike.of fun x y => alike_encT x y
  · refine .inl fun d hd => ?_
    obtain ⟨ns, hn, rfl⟩ := List.mem_map.mp hd
    cases ns with
    | nil => exact absurd rfl (hne _ hn)
    | cons n ns => exact ⟨_, _, rfl⟩
  · have : (encT ns).depth ≤ 2 := by
      unfold encT
      simp only [PyData.depth, PySem.W.depth_ints]
      omega
    omega
  · obtain ⟨vs, r1, r2⟩ := tps_each (hp := s.heap) he
    obtain ⟨n, hn⟩ := sortedAll_at s.heap its out.toArray
    have hf : H (s.heap.objs.size + 1) = none := I.hok.fresh (Nat.le_succ _)
    refine ⟨.ref _, _, I.laid (t' := s.toks) (o := .lst vs) (fun b o e => sortedAll_old e) (Nat.le_succ _) ⟨?_, out, n, r1, hn⟩, rfl, q vs _ r2 hf⟩
    rw [r1.length, ho]
    omega
/-! ### calls by data -/
section
variable {K : PySem.W.Frag}
def gMinT : GN
  | [.lst us] => match us.mapM T.tI? with
    | some (x :: xs) => some (true, tI (minL x xs))
    | _ => none
  | _ => none
theorem vwl1 {p : Addr} {H : Hp} {vs : List V} {t : T} {A : List Addr} (h : VwL K p H vs [t] A) : ∃ v, vs = [v] ∧ Vw K p H v t A := by
  cases h with
  | cons h1 h2 =>
    cases h2
    exact ⟨_, rfl, by rw [List.append_nil]; exact h1⟩
theorem on_minT : ON K (rMinT K) gMinT := fun p H xs ts B n t Q hv hg k => by
  unfold gMinT at hg
  split at hg
  · rename_i us
    split at hg
    · rename_i x xs e
      cases hg
      rw [rows_dec e] at hv
      obtain ⟨v, rfl, h1⟩ := vwl1 hv
      cases h1 with
      | lst h2 h3 =>
        exact ⟨_, _, x, xs, rfl, SqL.of h2, (vwl_tps h3).1, fun v hv => k v H [] (OQ.flat0 (tp_vw hv))⟩
    · cases hg
  · cases hg
def gSortT : GN
  | [.lst us] => match us.mapM T.tI? with
    | some nss => if nss.all (fun ns => !ns.isEmpty) then some (true, .lst ((sortL nss).map tI)) else none
    | _ => none
  | _ => none
theorem on_sortT : ON K (rSortT K) gSortT := fun p H xs ts B n t Q hv hg k => by
  unfold gSortT at hg
  split at hg
  · rename_i us
    split at hg
    · rename_i nss e
      split at hg
      · rename_i hne
        cases hg
        rw [rows_dec e] at hv
        obtain ⟨v, rfl, h1⟩ := vwl1 hv
        cases h1 with
        | lst h2 h3 =>
          refine ⟨_, _, nss, rfl, SqL.of h2, (vwl_tps h3).1, fun ns hn z => ?_, fun rows' q hr hq => k _ _ _ (OQ.lst true (tps_vwl hr) hq (fun _ => ⟨List.nodup_nil, fun a m => absurd m List.not_mem_nil⟩) fun c m => absurd m List.not_mem_nil)⟩
          have := List.all_eq_true.mp hne ns hn
          rw [z] at this
          cases this
      · cases hg
    · cases hg
  · cases hg
def gLen : GN
  | [.tup us] => some (true, .int us.length)
  | [.lst us] => some (true, .int us.length)
  | _ => none
theorem on_len : ON K (fun xs H Q => ∃ p ys, xs = [.ref p] ∧ (SqL K H p ys ∨ SqT K H p ys) ∧ Q (.int ys.length) H) gLen := fun p H xs ts B n t Q hv hg k => by
  unfold gLen at hg
  split at hg
  · cases hg
    obtain ⟨v, rfl, h1⟩ := vwl1 hv
    cases h1 with
    | tup h2 h3 => exact ⟨_, _, rfl, .inr h2.t, k _ _ _ (OQ.flat0 (by rw [h3.length]; exact .int _))⟩
  · cases hg
    obtain ⟨v, rfl, h1⟩ := vwl1 hv
    cases h1 with
    | lst h2 h3 => exact ⟨_, _, rfl, .inl (SqL.of h2), k _ _ _ (OQ.flat0 (by rw [h3.length]; exact .int _))⟩
  · cases hg
def gAbs : GN
  | [.int i] => some (true, .int (if i < 0 then -i else i))
  | _ => none
theorem on_abs : ON K (fun xs H Q => ∃ i, xs = [.int i] ∧ Q (.int (if i < 0 then -i else i)) H) gAbs := fun p H xs ts B n t Q hv hg k => by
  unfold gAbs at hg
  split at hg
  · cases hg
    obtain ⟨v, rfl, h1⟩ := vwl1 hv
    cases h1
    exact ⟨_, rfl, k _ _ _ (OQ.flat0 (.int _))⟩
  · cases hg
def gInt1 : GN
  | [.int i] => some (true, .int i)
  | _ => none
theorem on_int1 : ON K (fun xs H Q => (∃ i, xs = [.int i] ∧ Q (.int i) H) ∨ ∃ k : Bool, xs = [.bl k] ∧ Q (.int (if k then 1 else 0)) H) gInt1 := fun p H xs ts B n t Q hv hg k => by
  unfold gInt1 at hg
  split at hg
  · cases hg
    obtain ⟨v, rfl, h1⟩ := vwl1 hv
    cases h1
    exact .inl ⟨_, rfl, k _ _ _ (OQ.flat0 (.int _))⟩
  · cases hg
def gTuple : GN
  | [.tup us] => some (true, .tup us)
  | [.lst us] => if us.all T.flat then some (true, .tup us) else none
  | _ => none
def rTupleF (K : PySem.W.Frag) : List V → Hp → VK → Prop := fun xs H Q => ∃ p ys, xs = [.ref p] ∧ ((SqL K H p ys ∧ ∀ (l : Addr) (o : Obj), H l = none → o.dict = none → Q (.ref l) (upd H l (.frz o (.tup ys)))) ∨ (SqT K H p ys ∧ Q (.ref p) H))
theorem call_tupleF {X : Cx} : CallR X (.type "tuple") (rTupleF X.K) := by
  intro pins s σ H xs us Q I r h
  obtain ⟨p, ys, rfl, h⟩ := h
  obtain ⟨u, rfl, rx⟩ := vals1 r
  cases rx
  rcases h with ⟨hq, q⟩ | ⟨hq, q⟩
  · obtain ⟨its, r', pl, hz⟩ := I.list hq
    have hlen := r'.length
    refine call_tuple_list pl.isList (fun h' kp => ?_) (by simp only [List.size_toArray] <;> omega)
    have I1 : Inv X pins σ H { s with heap := h' } := I.kept (t' := s.toks) kp
    have I2 := laid_frz (s := { s with heap := h' }) (h' := h'.push { cls := .type "tuple", data := .seq its.toArray }) (t' := s.toks) I1 (fun b o e => Heap.get?_push_of_some _ e) (Nat.le_refl _) (Heap.get?_push_size _ rfl) rfl rfl r' hz
    exact ⟨.ref h'.objs.size, _, I2, rfl, q _ _ (I1.hok.fresh (Nat.le_refl _)) rfl⟩
  · obtain ⟨its, r', pl, hz⟩ := I.tuple hq
    exact call_tuple_same pl ⟨.ref p, H, I, rfl, q⟩
theorem on_tuple : ON K (rTupleF K) gTuple := fun p H xs ts B n t Q hv hg k => by
  unfold gTuple at hg
  split at hg
  · cases hg
    obtain ⟨v, rfl, h1⟩ := vwl1 hv
    cases h1 with
    | tup h2 h3 => exact ⟨_, _, rfl, .inr ⟨h2.t, k _ _ _ (OQ.flat0 (.tup h2 h3))⟩⟩
  · split at hg
    · rename_i hf
      cases hg
      obtain ⟨v, rfl, h1⟩ := vwl1 hv
      cases h1 with
      | lst h2 h3 =>
        have e := h3.flat hf
        subst e
        exact ⟨_, _, rfl, .inl ⟨SqL.of h2, fun l o hl ho => k _ _ [] (OQ.tup h3 hl ho)⟩⟩
    · cases hg
  · cases hg
def gList : GN
  | [.tup us] => some (true, .lst us)
  | [.lst us] => some (us.all T.flat, .lst us)
  | _ => none
theorem on_list : ON K (fun xs H Q => ∃ p ys, xs = [.ref p] ∧ (SqL K H p ys ∨ SqT K H p ys) ∧ ∀ l, H l = none → Q (.ref l) (upd H l (.lst ys))) gList := fun p H xs ts B n t Q hv hg k => by
  unfold gList at hg
  split at hg
  · cases hg
    obtain ⟨v, rfl, h1⟩ := vwl1 hv
    cases h1 with
    | tup h2 h3 => exact ⟨_, _, rfl, .inr h2.t, fun l hl => k _ _ _ (OQ.lst true h3 hl (fun _ => ⟨List.nodup_nil, fun a m => absurd m List.not_mem_nil⟩) fun c m => absurd m List.not_mem_nil)⟩
  · cases hg
    obtain ⟨v, rfl, h1⟩ := vwl1 hv
    cases h1 with
    | lst h2 h3 =>
      refine ⟨_, _, rfl, .inl (SqL.of h2), fun l hl => k _ _ _ (OQ.lst _ h3 hl (fun e => ?_) fun c m => List.mem_cons_of_mem _ m)⟩
      rw [h3.flat e]
      exact ⟨List.nodup_nil, fun a m => absurd m List.not_mem_nil⟩
  · cases hg
def gMx2 (mx : Bool) : GN
  | [.int i, .int j] => some (true, .int (if mx then (if j > i then j else i) else (if j < i then j else i)))
  | _ => none
theorem on_max2 : ON K (fun xs H Q => ∃ i j, xs = [.int i, .int j] ∧ Q (.int (if j > i then j else i)) H) (gMx2 true) := fun p H xs ts B n t Q hv hg k => by
  unfold gMx2 at hg
  split at hg
  · cases hg
    rw [vwl_ints2 hv]
    exact ⟨_, _, rfl, k _ _ _ (OQ.flat0 (.int _))⟩
  · cases hg
theorem on_min2 : ON K (fun xs H Q => ∃ i j, xs = [.int i, .int j] ∧ Q (.int (if j < i then j else i)) H) (gMx2 false) := fun p H xs ts B n t Q hv hg k => by
  unfold gMx2 at hg
  split at hg
  · cases hg
    rw [vwl_ints2 hv]
    exact ⟨_, _, rfl, k _ _ _ (OQ.flat0 (.int _))⟩
  · cases hg
/-! x in xs, ints -/
def gIn (neg : Bool) : G2
  | .int i, .tup us => (us.mapM T.int?).map fun ns => (true, .bl (if neg then !decide (i ∈ ns) else decide (i ∈ ns)))
  | .int i, .lst us => (us.mapM T.int?).map fun ns => (true, .bl (if neg then !decide (i ∈ ns) else decide (i ∈ ns)))
  | _, _ => none
theorem flatV_ints (ns : List Int) : (ns.map V.int).all flatV = true := by
  rw [List.all_eq_true]
  intro v hv
  obtain ⟨n, _, rfl⟩ := List.mem_map.mp hv
  rfl
theorem inV_ints (i : Int) (ns : List Int) : inV (.int i) (ns.map V.int) = decide (i ∈ ns) := by
  unfold inV
  rw [List.any_map, Bool.eq_iff_iff, List.any_eq_true, decide_eq_true_iff]
  constructor
  · rintro ⟨n, hn, e⟩
    have : (n == i) = true := e
    rw [← eq_of_beq this]
    exact hn
  · intro h
    exact ⟨i, h, by show (i == i) = true; exact beq_self_eq_true i⟩
theorem o_in {neg : Bool} : O2 K (rIn K neg) (gIn neg) := fun p H x y tx ty B D n t Q hx hy hg k => by
  cases hx with
  | int i =>
    cases hy with
    | @tup a vs us h1 h2 =>
      simp only [gIn, Option.map_eq_some_iff] at hg
      obtain ⟨ns, e, e1⟩ := hg
      cases e1
      rw [mapM_dec int?_dec e] at h2
      rw [vwl_ints h2] at h1
      refine ⟨a, _, rfl, .inr h1.t, rfl, flatV_ints ns, ?_⟩
      rw [inV_ints]
      exact k _ _ _ (OQ.flat0 (.bl _))
    | @lst a vs us A h1 h2 =>
      simp only [gIn, Option.map_eq_some_iff] at hg
      obtain ⟨ns, e, e1⟩ := hg
      cases e1
      rw [mapM_dec int?_dec e] at h2
      rw [vwl_ints h2] at h1
      refine ⟨a, _, rfl, .inl (SqL.of h1), rfl, flatV_ints ns, ?_⟩
      rw [inV_ints]
      exact k _ _ _ (OQ.flat0 (.bl _))
    | _ => simp only [gIn, reduceCtorEq] at hg
  | _ => simp only [gIn, reduceCtorEq] at hg
end
end DL

set_option Elab.async false
set_option linter.all false
set_option maxRecDepth 100000
set_option maxHeartbeats 1000000
/-! enumerate over a tuple -/
namespace DL
open PySem PySem.Spec PyProof.Rows L2
theorem meets_enum1 {v : Value} {o : Obj} {B : Heap → Prop} (b : Begins v o B) :
    Meets (Builtin.«enumerate.__new__» ⟨[.type "enumerate", v], []⟩) (fun _ R s => B s.heap ∧
      R (.ok (.ret (.ref (s.heap.push o).objs.size))) { s with heap := (s.heap.push o).push { cls := .type "enumerate", data := .fields #[.none, .bool false, .ref s.heap.objs.size, rawInt 0, .none, .none] } }) :=
  .of_wp fun prog w A R s h => by
    obtain ⟨hp, g, d, tk, os⟩ := s; obtain ⟨h1, h⟩ := h
    have hsub := sub_enumerate
    have q1 : ∀ {A' : Around} {E : Value → Shared → Prop} {Q : Value → Shared → Prop}, Q (.ref hp.objs.size) ⟨hp.push o, g, d, tk, os⟩ → wpAny (model prog w) A' (pyIter v) Q E ⟨hp, g, d, tk, os⟩ :=
      fun q => b.iter prog w _ _ ⟨hp, g, d, tk, os⟩ _ h1 q
    wp_walk using q1
    refine wpAny_stack_any fun st => wpAny_pure ?_
    split
    · rename_i c _ _ _ _ _
      cases (c == Value.type "enumerate") <;> (wp_walk using q1; exact ⟨_, rfl, h⟩)
    · wp_walk using q1
      exact ⟨_, rfl, h⟩
section
variable {prog : Program} {w : World} {A : Around} {E : Value → Shared → Prop} {s : Shared}
theorem call_enum1 {v : Value} {o : Obj} {B : Heap → Prop} {Q : Value → Shared → Prop} (b : Begins v o B) (h1 : B s.heap)
    (h : ∀ h', IsEnum h' (s.heap.objs.size + 1) s.heap.objs.size 0 .none → h'.get? s.heap.objs.size = some o → (∀ b o, s.heap.get? b = some o → h'.get? b = some o) → Q (.ref (s.heap.objs.size + 1)) { s with heap := h' }) :
    wpAny (model prog w) A (call (.type "enumerate") [v]) Q E s := by
  refine callType_new F.called_enumerate (by decide) (F.typeCall_enumerate_1 _) (F.newCall_enumerate_1 _) (fun obj => F.args_object_init_2 obj _) F.entry_enumerate_new (meets_enum1 b) ⟨h1, ?_⟩
  have hz : (s.heap.push o).objs.size = s.heap.objs.size + 1 := Heap.size_push ..
  rw [hz]
  have he : IsEnum ((s.heap.push o).push { cls := .type "enumerate", data := .fields #[.none, .bool false, .ref s.heap.objs.size, rawInt 0, .none, .none] }) (s.heap.objs.size + 1) s.heap.objs.size 0 .none := by
    have q := Heap.get?_push_size (s.heap.push o) (o := { cls := .type "enumerate", data := .fields #[.none, .bool false, .ref s.heap.objs.size, rawInt 0, .none, .none] }) rfl
    rw [hz] at q
    exact q
  exact ⟨⟨_, he, rfl⟩, h _ he (Heap.get?_push_of_some _ (Heap.get?_push_size _ b.free)) fun c u x => Heap.get?_push_of_some _ (Heap.get?_push_of_some _ x)⟩
end
/-- the tuple at a, each item in a new pair -/
def ItE (K : PySem.W.Frag) (a : Addr) : It :=
  ⟨fun i H => ∃ (xs : List V) (x : V), SqT K H a xs ∧ xs[i]? = some x, fun i H v H' => ∃ T x, v = .ref T ∧ H T = none ∧ (∃ o : Obj, o.dict = none ∧ H' = upd H T (.frz o (.tup [.int (i : Nat), x]))) ∧ ∀ xs, SqT K H a xs → xs[i]? = some x, fun i H => ∃ xs : List V, SqT K H a xs ∧ xs.length = i⟩
theorem turn_enumT {P : Program} {w : World} {K : PySem.W.Frag} {elts : List Expr} {kk : Nat} {tpos : Pos} (a e it : Addr) :
    Turn P w K (.Tuple elts kk tpos) (ItE K a) [e, it] e (fun i h => (∃ old, IsEnum h e it ((i : Nat) : Int) old) ∧ h.IsTupleIter it a i ∧ e ≠ it) where
  mem := by simp
  obj := fun i h st b hb => by
    obtain ⟨⟨old, he⟩, ⟨o, ho, hc, hd⟩, _⟩ := st
    have e' : b = e ∨ b = it := by simpa using hb
    rcases e' with z | z
    · rw [z]; exact ⟨_, he, fun v q => nomatch q⟩
    · rw [z]; exact ⟨o, ho, fun v q => by rw [hd] at q; cases q⟩
  keep := fun i h h' st k => let ⟨⟨old, he⟩, hi, hne⟩ := st; ⟨⟨old, k e (by simp) _ he⟩, hi.at fun o q => k it (by simp) o q, hne⟩
  item := by
    intro X hP hw hK hc i pins s σ H E I hf st hg
    subst hP hw hK
    obtain ⟨⟨old, he⟩, hit, hne⟩ := st
    obtain ⟨xs, x, hq, hx⟩ := hg
    obtain ⟨its, rv, ht, hz⟩ := I.tuple hq
    obtain ⟨u, hu, ru⟩ := rv.get hx
    have hel : e < s.heap.objs.size := Heap.lt_size he
    have hil : it < s.heap.objs.size := by obtain ⟨_, q, _⟩ := hit; exact Heap.lt_size q
    have ane : a ≠ it := fun z => by
      obtain ⟨o, h1, h2, _⟩ := ht
      obtain ⟨o', h3, h4, _⟩ := hit
      rw [z] at h1
      have e1 := Option.some.inj (h1.symm.trans h3)
      rw [← e1, h2] at h4
      exact absurd h4 (by decide)
    have ena : e ≠ a := fun z => by
      obtain ⟨o, h1, h2, _⟩ := ht
      rw [← z] at h1
      have he' : s.heap.get? e = some _ := he
      have e1 := Option.some.inj (h1.symm.trans he')
      rw [e1] at h2
      have h2' : Value.type "enumerate" = Value.type "tuple" := h2
      exact absurd h2' (by decide)
    have hlt : i < its.toArray.size := by
      have := (List.getElem?_eq_some_iff.mp hu).1
      simpa using this
    have D := PySem.Draws.tuple (prog := X.prog) (w := X.w) (A := X.A.in1) (I.ok.hd hc) it a ane its.toArray
    refine wpAny_pyNext_enum_itemD D he ⟨hit, ht⟩ hlt hne (by simp [hne, ena]) fun y h' tk hy ho hst hT hsz hk => ?_
    have ey : y = u := by
      have hy' : its[i]? = some y := by simpa using hy
      exact Option.some.inj (hy'.symm.trans hu)
    subst ey
    refine ⟨_, rfl, wpAny_letOwnedTupleGo_enum (s := { s with heap := h', toks := tk + 1 }) ho fun h'' he' sb => ?_⟩
    have hT2 : h''.get? s.heap.objs.size = some { cls := .type "tuple", data := .seq #[.int i tk, y] } := (sb.2 _ (Nat.ne_of_gt hel)).trans hT
    have new : ObjOk X.prog X.w (upd H s.heap.objs.size (.frz { cls := .type "tuple", data := .seq #[.int i tk, y] } (.tup [.int (i : Nat), x]))) h'' s.heap.objs.size (.frz { cls := .type "tuple", data := .seq #[.int i tk, y] } (.tup [.int (i : Nat), x])) :=
      ⟨hT2, by show 2 ≤ sizeLine; decide, [.int i tk, y], .cons ⟨_, rfl⟩ (.cons ru .nil), ⟨_, hT2, rfl, _, rfl⟩⟩
    have I1 : Inv X pins σ (upd H s.heap.objs.size (.frz { cls := .type "tuple", data := .seq #[.int i tk, y] } (.tup [.int (i : Nat), x]))) { s with heap := h'', toks := tk + 1 } :=
      I.turnedNew (ch := [e, it]) (fun b ob hb q => (sb.2 b (fun z => hb (by simp [z]))).trans (hk b ob (fun z => hb (by simp [z])) (fun z => hb (by simp [z])) q)) hf (Nat.le_refl _) new
    refine ⟨.ref s.heap.objs.size, _, I1, rfl, ⟨_, x, rfl, I.hok.fresh (Nat.le_refl _), ⟨_, rfl, rfl⟩, fun ys hy => by rw [I.tuple_inj hy hq]; exact hx⟩, ⟨⟨y, ?_⟩, hst.1.at fun o q => (sb.2 it (Ne.symm hne)).trans q, hne⟩, fun b hb => ?_⟩
    · have e1 : ((i + 1 : Nat) : Int) = (i : Int) + 1 := by omega
      rw [e1]; exact he'
    · have hb' : b < s.heap.objs.size := by
        have e' : b = e ∨ b = it := by simpa using hb
        rcases e' with z | z
        · rw [z]; exact hel
        · rw [z]; exact hil
      rw [upd_ne (Nat.ne_of_lt hb')]
      exact (hf b hb).1
  done := by
    intro X hP hw hK hc i pins s σ H E I hf st hg
    subst hP hw hK
    obtain ⟨⟨old, he⟩, hit, hne⟩ := st
    obtain ⟨xs, hq, hx⟩ := hg
    obtain ⟨its, rv, ht, hz⟩ := I.tuple hq
    have ane : a ≠ it := fun z => by
      obtain ⟨o, h1, h2, _⟩ := ht
      obtain ⟨o', h3, h4, _⟩ := hit
      rw [z] at h1
      have e1 := Option.some.inj (h1.symm.trans h3)
      rw [← e1, h2] at h4
      exact absurd h4 (by decide)
    have D := PySem.Draws.tuple (prog := X.prog) (w := X.w) (A := X.A.in1) (I.ok.hd hc) it a ane its.toArray
    have hi : i = its.toArray.size := by
      rw [List.size_toArray, ← rv.length, hx]
    subst hi
    obtain ⟨f0, f1, f2, f3, f4, f5⟩ := hf it (by simp)
    exact wpAny_pyNext_enum_endD D he ⟨hit, ht⟩ fun h' eb => ⟨rfl, I.turned (t' := s.toks) (fun b o hb q => eb b o hb q) f0 f1 f3 f4 f5⟩
  self := fun A i s Q E st h => let ⟨⟨_, he⟩, _⟩ := st; wpAny_pyIter_enum he h
def iEnT (K : PySem.W.Frag) (ta : TA) : TI := fun σ H R => ta σ H fun vs H1 => ∃ a xs, vs = [.ref a] ∧ SqT K H1 a xs ∧ R (ItE K a) H1
theorem pi_enT {X : Cx} {e : Expr} {ta : TA} {p pos tpos : Pos} {elts : List Expr} {kk : Nat} (hg : Gl X "enumerate") (hm : X.mg "enumerate" = none) (ha : PA X [e] ta) (hs : starEach [e] X.env = [(false, eval e X.env)] := by rfl) :
    PI X (.Tuple elts kk tpos) (.Call (.Name "enumerate" p) [e] [] pos) (iEnT X.K ta) := by
  refine ⟨fun pins s σ H R I h => ?_⟩
  refine Call_ (ld_blt I hg hm boot_enumerate (PyProof.Rows.callWith_type1 (thn (ha.run pos pins s σ H _ I h) fun us s1 ⟨vs, H1, I1, r1, q1⟩ => ?_) hs rfl))
  obtain ⟨a, xs, ex, hq, q⟩ := q1
  subst ex
  obtain ⟨u, rfl, ru⟩ := vals1 r1
  obtain rfl : u = Value.ref a := ru
  obtain ⟨its, rv, ht, hz⟩ := I1.tuple hq
  refine call_enum1 (begins_tuple a its.toArray) ht fun h' he ho hk => wpAny_pyIter_enum he ?_
  have I2 : Inv X pins σ H1 { s1 with heap := h' } := I1.kept (t' := s1.toks) hk
  refine ⟨s1.heap.objs.size + 1, [s1.heap.objs.size + 1, s1.heap.objs.size], _, _, H1, rfl, I2, turn_enumT a (s1.heap.objs.size + 1) s1.heap.objs.size, ⟨⟨.none, he⟩, ⟨_, ho, rfl, rfl⟩, Nat.succ_ne_self _⟩, fun b hb => ?_, q⟩
  have e' : b = s1.heap.objs.size + 1 ∨ b = s1.heap.objs.size := by simpa using hb
  have hle : s1.heap.objs.size ≤ b := by
    rcases e' with z | z
    · rw [z]; exact Nat.le_add_right _ _
    · rw [z]; exact Nat.le_refl _
  exact I1.fpOk hle (I1.hok.fresh hle)
/-- the list at a as it stands at each turn, each item in a new pair -/
def ItEL (K : PySem.W.Frag) (a : Addr) : It :=
  ⟨fun i H => ∃ (xs : List V) (x : V), SqL K H a xs ∧ xs[i]? = some x, fun i H v H' => ∃ T x, v = .ref T ∧ H T = none ∧ (∃ o : Obj, o.dict = none ∧ H' = upd H T (.frz o (.tup [.int (i : Nat), x]))) ∧ ∀ xs, SqL K H a xs → xs[i]? = some x, fun i H => ∃ xs : List V, SqL K H a xs ∧ xs.length ≤ i⟩
theorem turn_enumL {P : Program} {w : World} {K : PySem.W.Frag} {elts : List Expr} {kk : Nat} {tpos : Pos} (a e it : Addr) :
    Turn P w K (.Tuple elts kk tpos) (ItEL K a) [e, it] e (fun i h => (∃ old, IsEnum h e it ((i : Nat) : Int) old) ∧ h.IsListIter it a i ∧ e ≠ it) where
  mem := by simp
  obj := fun i h st b hb => by
    obtain ⟨⟨old, he⟩, ⟨o, ho, hc, hd⟩, _⟩ := st
    have e' : b = e ∨ b = it := by simpa using hb
    rcases e' with z | z
    · rw [z]; exact ⟨_, he, fun v q => nomatch q⟩
    · rw [z]; exact ⟨o, ho, fun v q => by rw [hd] at q; cases q⟩
  keep := fun i h h' st k => let ⟨⟨old, he⟩, hi, hne⟩ := st; ⟨⟨old, k e (by simp) _ he⟩, hi.at fun o q => k it (by simp) o q, hne⟩
  item := by
    intro X hP hw hK hc i pins s σ H E I hf st hg
    subst hP hw hK
    obtain ⟨⟨old, he⟩, hit, hne⟩ := st
    obtain ⟨xs, x, hq, hx⟩ := hg
    obtain ⟨its, rv, p, hz⟩ := I.list hq
    obtain ⟨u, hu, ru⟩ := rv.get hx
    have hel : e < s.heap.objs.size := Heap.lt_size he
    have hil : it < s.heap.objs.size := by obtain ⟨_, q, _⟩ := hit; exact Heap.lt_size q
    refine wpAny_pyNext_enum_item he hit p.isList (x := u) (by simpa using hu) hne fun h' ho hit' hT hsz hk => ?_
    refine ⟨_, rfl, wpAny_letOwnedTupleGo_enum (s := { s with heap := h', toks := s.toks + 1 }) ho fun h'' he' sb => ?_⟩
    have hT2 : h''.get? s.heap.objs.size = some { cls := .type "tuple", data := .seq #[.int i s.toks, u] } := (sb.2 _ (Nat.ne_of_gt hel)).trans hT
    have new : ObjOk X.prog X.w (upd H s.heap.objs.size (.frz { cls := .type "tuple", data := .seq #[.int i s.toks, u] } (.tup [.int (i : Nat), x]))) h'' s.heap.objs.size (.frz { cls := .type "tuple", data := .seq #[.int i s.toks, u] } (.tup [.int (i : Nat), x])) :=
      ⟨hT2, by show 2 ≤ sizeLine; decide, [.int i s.toks, u], .cons ⟨_, rfl⟩ (.cons ru .nil), ⟨_, hT2, rfl, _, rfl⟩⟩
    have I1 : Inv X pins σ (upd H s.heap.objs.size (.frz { cls := .type "tuple", data := .seq #[.int i s.toks, u] } (.tup [.int (i : Nat), x]))) { s with heap := h'', toks := s.toks + 1 } :=
      I.turnedNew (ch := [e, it]) (fun b ob hb q => (sb.2 b (fun z => hb (by simp [z]))).trans (hk b ob (fun z => hb (by simp [z])) (fun z => hb (by simp [z])) q)) hf (Nat.le_refl _) new
    refine ⟨.ref s.heap.objs.size, _, I1, rfl, ⟨_, x, rfl, I.hok.fresh (Nat.le_refl _), ⟨_, rfl, rfl⟩, fun ys hy => by rw [I.list_inj hy hq]; exact hx⟩, ⟨⟨u, ?_⟩, hit'.at fun o q => (sb.2 it (Ne.symm hne)).trans q, hne⟩, fun b hb => ?_⟩
    · have e1 : ((i + 1 : Nat) : Int) = (i : Int) + 1 := by omega
      rw [e1]; exact he'
    · have hb' : b < s.heap.objs.size := by
        have e' : b = e ∨ b = it := by simpa using hb
        rcases e' with z | z
        · rw [z]; exact hel
        · rw [z]; exact hil
      rw [upd_ne (Nat.ne_of_lt hb')]
      exact (hf b hb).1
  done := by
    intro X hP hw hK hc i pins s σ H E I hf st hg
    subst hP hw hK
    obtain ⟨⟨old, he⟩, hit, hne⟩ := st
    obtain ⟨xs, hq, hx⟩ := hg
    obtain ⟨its, rv, p, hz⟩ := I.list hq
    obtain ⟨f0, f1, f2, f3, f4, f5⟩ := hf it (by simp)
    have hl := rv.length
    exact wpAny_pyNext_enum_end (I.ok.hd hc) he hit p.isList (by simp; omega) fun h' eb => ⟨rfl, I.turned (t' := s.toks) (fun b o hb q => eb b o hb q) f0 f1 f3 f4 f5⟩
  self := fun A i s Q E st h => let ⟨⟨_, he⟩, _⟩ := st; wpAny_pyIter_enum he h
def iEnL (K : PySem.W.Frag) (ta : TA) : TI := fun σ H R => ta σ H fun vs H1 => ∃ a xs, vs = [.ref a] ∧ SqL K H1 a xs ∧ R (ItEL K a) H1
theorem pi_enL {X : Cx} {e : Expr} {ta : TA} {p pos tpos : Pos} {elts : List Expr} {kk : Nat} (hg : Gl X "enumerate") (hm : X.mg "enumerate" = none) (ha : PA X [e] ta) (hs : starEach [e] X.env = [(false, eval e X.env)] := by rfl) :
    PI X (.Tuple elts kk tpos) (.Call (.Name "enumerate" p) [e] [] pos) (iEnL X.K ta) := by
  refine ⟨fun pins s σ H R I h => ?_⟩
  refine Call_ (ld_blt I hg hm boot_enumerate (PyProof.Rows.callWith_type1 (thn (ha.run pos pins s σ H _ I h) fun us s1 ⟨vs, H1, I1, r1, q1⟩ => ?_) hs rfl))
  obtain ⟨a, xs, ex, hq, q⟩ := q1
  subst ex
  obtain ⟨u, rfl, ru⟩ := vals1 r1
  obtain rfl : u = Value.ref a := ru
  obtain ⟨its, rv, p', hz⟩ := I1.list hq
  refine call_enumerate_list p'.isList fun h' he hit hsz hk => wpAny_pyIter_enum he ?_
  have I2 : Inv X pins σ H1 { s1 with heap := h' } := I1.kept (t' := s1.toks) hk
  refine ⟨s1.heap.objs.size + 1, [s1.heap.objs.size + 1, s1.heap.objs.size], _, _, H1, rfl, I2, turn_enumL a (s1.heap.objs.size + 1) s1.heap.objs.size, ⟨⟨.none, he⟩, hit, Nat.succ_ne_self _⟩, fun b hb => ?_, q⟩
  have e' : b = s1.heap.objs.size + 1 ∨ b = s1.heap.objs.size := by simpa using hb
  have hle : s1.heap.objs.size ≤ b := by
    rcases e' with z | z
    · rw [z]; exact Nat.le_add_right _ _
    · rw [z]; exact Nat.le_refl _
  exact I1.fpOk hle (I1.hok.fresh hle)
end DL

set_option Elab.async false
set_option linter.all false
set_option maxRecDepth 100000
set_option maxHeartbeats 1000000
namespace DL
open PySem PySem.Spec PyProof.Rows L2
open AutoSeq1 (wpAny_loadPart')

/-! ### enumerate -/
def enT (us : List T) : List T := us.mapIdx fun i t => .tup [.int (i : Nat), t]
theorem enT_get {us : List T} {i : Nat} {t : T} (h : (enT us)[i]? = some t) : ∃ u, us[i]? = some u ∧ t = .tup [.int (i : Nat), u] := by
  unfold enT at h
  rw [List.getElem?_mapIdx, Option.map_eq_some_iff] at h
  obtain ⟨u, h1, h2⟩ := h
  exact ⟨u, h1, h2.symm⟩
theorem enT_length (us : List T) : (enT us).length = us.length := by unfold enT; rw [List.length_mapIdx]
theorem enT_flat (us : List T) : (enT us).all T.flat = true := by
  rw [List.all_eq_true]
  intro t ht
  obtain ⟨i, hi, e⟩ := List.mem_iff_getElem.mp ht
  obtain ⟨u, _, h2⟩ := enT_get (i := i) (t := t) (by rw [List.getElem?_eq_getElem hi, e])
  rw [h2]
  rfl
section
variable {K : PySem.W.Frag} {X : Cx} {pos : Pos} {a : Expr}
theorem it_enT {p : Addr} {H1 : Hp} {a : Addr} {us : List T} {B : List Addr} (h : Vw K p H1 (.ref a) (.tup us) B) : ItOk K p (ItE K a) H1 (enT us) B where
  go := fun i t H ht s => by
    obtain ⟨u, hu, rfl⟩ := enT_get ht
    obtain ⟨xs, h1, h2⟩ := seq_tup h s
    obtain ⟨v, C, e, _, _⟩ := h2.get hu
    exact ⟨xs, v, h1, e⟩
  yl := fun i t H x H' ht s y => by
    obtain ⟨u, hu, rfl⟩ := enT_get ht
    obtain ⟨q, w, rfl, hq, ⟨o, od, rfl⟩, y⟩ := y
    obtain ⟨xs, h1, h2⟩ := seq_tup h s
    obtain ⟨v, C, e, vw, m⟩ := h2.get hu
    have ex : w = v := Option.some.inj ((y xs h1).symm.trans e)
    subst ex
    have ec : C = [] := List.eq_nil_iff_forall_not_mem.mpr fun b mb => absurd (m b mb) List.not_mem_nil
    subst ec
    exact ⟨same_new hq, [], .tup (SqF.of od) (.cons (.int _) (.cons (vw.same (same_new hq)) .nil)), fun b z => absurd z List.not_mem_nil⟩
  st := fun H s => by
    obtain ⟨xs, h1, h2⟩ := seq_tup h s
    exact ⟨xs, h1, by rw [enT_length]; exact h2.length⟩
theorem it_enL {p : Addr} {H1 : Hp} {a : Addr} {us : List T} {B : List Addr} (h : Vw K p H1 (.ref a) (.lst us) B) (fl : us.all T.flat = true) : ItOk K p (ItEL K a) H1 (enT us) B where
  go := fun i t H ht s => by
    obtain ⟨u, hu, rfl⟩ := enT_get ht
    obtain ⟨xs, B', h1, h2, _⟩ := seq_list h s
    obtain ⟨v, C, e, _, _⟩ := h2.get hu
    exact ⟨xs, v, h1, e⟩
  yl := fun i t H x H' ht s y => by
    obtain ⟨u, hu, rfl⟩ := enT_get ht
    obtain ⟨q, w, rfl, hq, ⟨o, od, rfl⟩, y⟩ := y
    obtain ⟨xs, B', h1, h2, h3⟩ := seq_list h s
    obtain ⟨v, C, e, vw, m⟩ := h2.get hu
    have ex : w = v := Option.some.inj ((y xs h1).symm.trans e)
    subst ex
    have ec : C = [] := vw.flat (List.all_eq_true.mp fl u (List.mem_of_getElem? hu))
    subst ec
    exact ⟨same_new hq, [], .tup (SqF.of od) (.cons (.int _) (.cons (vw.same (same_new hq)) .nil)), fun b z => absurd z List.not_mem_nil⟩
  st := fun H s => by
    obtain ⟨xs, B', h1, h2, _⟩ := seq_list h s
    exact ⟨xs, h1, by rw [enT_length, h2.length]; exact Nat.le_refl _⟩
/-- enumerate(x) -/
def iEn (f : Ex) : Ix := fun S e => do
  let (c, e) ← f S e
  match c.t with
  | .tup us => some (enT us, e)
  | .lst us => if c.k = .vw ∨ us.all T.flat = false then none else some (enT us, e)
  | _ => none
def tEn (K : PySem.W.Frag) (t : TE) : TI := fun σ H R => iEnT K (tCons t tNil) σ H R ∨ iEnL K (tCons t tNil) σ H R
theorem rdi_en {t : TE} {f : Ex} (h : Rd K t f) : RdI K (tEn K t) (iEn f) := fun p Fs Z H σ S e A R its e' hs hf k => by
  unfold iEn at hf
  cases h1 : f S e with
  | none => rw [h1] at hf; cases hf
  | some z =>
    obtain ⟨⟨kc, tc⟩, e1⟩ := z
    rw [h1] at hf
    simp only [Option.bind_eq_bind, Option.bind_some] at hf
    cases tc with
    | tup us =>
      simp only [Option.some.injEq, Prod.mk.injEq] at hf
      obtain ⟨rfl, rfl⟩ := hf
      refine .inl ?_
      refine h p Fs Z H σ S e A _ _ e1 hs h1 fun v H1 B q => ?_
      have hv : Vw K p H1 v (.tup us) B := q.vw
      obtain ⟨a, rfl⟩ := vw_ref_tup hv
      obtain ⟨xs, s1, s2⟩ := seq_tup hv ⟨Im.refl _, fun _ _ _ e => e⟩
      exact ⟨a, xs, rfl, s1, k _ H1 B q.src q.mv (EQ.walk hs q (.inr rfl)) (it_enT hv)⟩
    | lst us =>
      simp only at hf
      by_cases hk : kc = .vw ∨ us.all T.flat = false
      · rw [if_pos hk] at hf; cases hf
      · rw [if_neg hk] at hf
        simp only [Option.some.injEq, Prod.mk.injEq] at hf
        obtain ⟨rfl, rfl⟩ := hf
        refine .inr ?_
        refine h p Fs Z H σ S e A _ _ e1 hs h1 fun v H1 B q => ?_
        have hv : Vw K p H1 v (.lst us) B := q.vw
        obtain ⟨a, rfl⟩ := vw_ref_lst hv
        obtain ⟨xs, B', s1, s2, _⟩ := seq_list hv ⟨Im.refl _, fun _ _ _ e => e⟩
        exact ⟨a, xs, rfl, s1, k _ H1 B q.src q.mv (EQ.walk hs q (.inl fun z => hk (.inl z))) (it_enL hv (by cases hz : us.all T.flat with | true => rfl | false => exact absurd (.inr hz) hk))⟩
    | _ => cases hf
theorem di_en {elts : List Expr} {kk : Nat} {tpos p : Pos} {t : TE} {f : Ex} (ha : DX K X a t f) (hm : X.mg "enumerate" = none) (hK : X.K = K := by rfl) (hg : Gl X "enumerate" := by rfl) (hs : starEach [a] X.env = [(false, eval a X.env)] := by rfl) :
    DI K X (.Tuple elts kk tpos) (.Call (.Name "enumerate" p) [a] [] pos) (tEn K t) (iEn f) := by
  subst hK
  have pa : PA X [a] (tCons t tNil) := pa_cons ha.pe pa_nil (by rw [hs]; rfl)
  exact ⟨pi_or (pi_enT hg hm pa hs) (pi_enL hg hm pa hs), rdi_en ha.rd⟩
end

/-! ### statements that are never met -/
theorem ds_never {K : PySem.W.Frag} {X : Cx} {pn : Bool} {st : Stmt} : DS K X pn st tNever fun _ _ => none := ⟨ps_never, fun p Fs Z H σ S e A D fl S' e' hs hf => by cases hf⟩

/-! ### an owned slot given up to be shared -/
def share (i : Nat) (S : Slots) : Slots := match S[i]? with
  | some (some ⟨.own, t⟩) => S.set i (some ⟨.shr, t⟩)
  | _ => S
theorem share_get {i j : Nat} {S : Slots} {c : Cell} (h : (share i S)[j]? = some (some c)) : ∃ d, S[j]? = some (some d) ∧ d.t = c.t ∧ (c.k = .own → d.k = .own) ∧ (d.k ≠ .vw → c.k ≠ .vw) := by
  unfold share at h
  split at h
  · rename_i t hi
    rcases set_get h with ⟨rfl, z⟩ | ⟨_, z⟩
    · cases z
      exact ⟨_, hi, rfl, (fun z => nomatch z), fun _ z => nomatch z⟩
    · exact ⟨c, z, rfl, (fun z => z), fun z => z⟩
  · exact ⟨c, h, rfl, (fun z => z), fun z => z⟩
theorem share_len {i : Nat} {S : Slots} : (share i S).length = S.length := by
  unfold share
  split
  · rw [List.length_set]
  · rfl
section
variable {K : PySem.W.Frag} {X : Cx} {pn : Bool} {pos : Pos}
theorem SR.share {p : Addr} {Fs : List Addr} {Z : Addr → Prop} {H : Hp} {σ : L2.St} {S : Slots} {e : Option Src} {A : Nat → List Addr} (h : SR K p Fs Z H σ S e A) (i : Nat) : SR K p Fs Z H σ (share i S) e A := by
  refine ⟨by rw [share_len]; exact h.len, fun j c hj => ?_, fun j t hj => ?_, fun j l t c hj hl ne => ?_, h.src, fun j c hj => ?_, fun j c hj => ?_, h.zn⟩
  · obtain ⟨d, h1, h2, _, h4⟩ := share_get hj
    obtain ⟨k, v, q1, q2⟩ := h.slot j d h1
    exact ⟨h4 k, v, q1, by rw [← h2]; exact q2⟩
  · obtain ⟨d, h1, h2, h3, _⟩ := share_get hj
    obtain ⟨kd, td⟩ := d
    have := h3 rfl
    simp only at this h2
    subst this h2
    exact h.nd j _ h1
  · obtain ⟨d, h1, h2, h3, _⟩ := share_get hj
    obtain ⟨kd, td⟩ := d
    have := h3 rfl
    simp only at this h2
    subst this h2
    obtain ⟨d', h1', _⟩ := share_get hl
    exact h.dj j l _ d' h1 h1' ne
  · obtain ⟨d, h1, _⟩ := share_get hj
    exact h.ds j d h1
  · obtain ⟨d, h1, _⟩ := share_get hj
    exact h.z j d h1
theorem Own.unshare {S : Slots} {A : Nat → List Addr} {i : Nat} {b : Addr} (h : Own (share i S) A b) : Own S A b := by
  obtain ⟨j, t, hj, m⟩ := h
  obtain ⟨d, h1, h2, h3, _⟩ := share_get hj
  obtain ⟨kd, td⟩ := d
  have := h3 rfl
  simp only at this h2
  subst this h2
  exact ⟨j, _, h1, m⟩
theorem Go.share {Fs : List Addr} {σ : L2.St} {S : Slots} {A : Nat → List Addr} {H : Hp} (i : Nat) : Go Fs pn σ S A H σ (share i S) A H :=
  ⟨⟨fun b o y _ _ => y, fun b w => .inl w.unshare⟩, Th.refl H, fun _ => rfl⟩
theorem ds_share {st : Stmt} {t : TS} {f : Sx} (i : Nat) (h : DS K X pn st t f) : DS K X pn st t (fun S e => f (share i S) e) :=
  ⟨h.ps, fun p Fs Z H σ S e A D fl S' e' hs hf k => h.rd p Fs Z H σ (share i S) e A D fl S' e' (hs.share i) hf (k.back (Go.share i))⟩
end

/-! ### methods that change an owned list -/
/-- r at a list, from us and the arguments to us' -/
def LM (K : PySem.W.Frag) (r : V → List V → Hp → VK → Prop) (h : List T → List T → Option (List T)) : Prop :=
  ∀ (p : Addr) (H : Hp) (l : Addr) (xs vs : List V) (us ts us' : List T) (B C : List Addr) (Q : VK), H l = some (.lst xs) → VwL K p H xs us B → VwL K p H vs ts C → h us ts = some us' → (B ++ C).Nodup →
    (∀ (v : V) (xs' : List V) (B' : List Addr), VwL K p H xs' us' B' → (∀ b ∈ B', b ∈ B ∨ b ∈ C) → B'.Nodup → Q v (upd H l (.lst xs'))) → r (.ref l) vs H Q
def sMth (i : Nat) (h : List T → List T → Option (List T)) (f : Ax) : Sx := fun S e => do
  let (cs, e) ← f S e
  match S[i]? with
  | some (some ⟨.own, .lst us⟩) => if cs.all okItem then (h us (ts cs)).bind fun us' => some (.nx, S.set i (some ⟨.own, .lst us'⟩), e) else none
  | _ => none
section
variable {K : PySem.W.Frag} {X : Cx} {pn : Bool} {pos : Pos}
theorem EA.item {p : Addr} {Fs : List Addr} {Z : Addr → Prop} {H H' : Hp} {σ : L2.St} {S : Slots} {A : Nat → List Addr} {e : Option Src} {cs : List Cell} {e' : Option Src} {vs : List V} {B : List Addr} (h : SR K p Fs Z H σ S e A) (q : EA K p Fs Z H S A cs e' vs H' B) (ho : cs.all okItem = true) :
    B.Nodup ∧ (∀ a ∈ B, H a = none) ∧ ∀ b ∈ B, b ∉ Fs ∧ Z b ∧ ∀ j c, S[j]? = some (some c) → b ∉ A j := by
  have h1 := q.own ho
  refine ⟨h1.1, h1.2, fun b m => ⟨q.df b m, q.sub b m, fun j c hj mj => ?_⟩⟩
  have mu := h.mut hj b mj
  rw [h1.2 b m] at mu
  exact mu
theorem rds_mth {r : V → List V → Hp → VK → Prop} {h : List T → List T → Option (List T)} {ta : TA} {f : Ax} (i : Nat) (hL : LM K r h) (ha : RdA K ta f) : RdS K pn (tDrop (tBM K "list" r (tVar i) ta)) (sMth i h f) := fun p Fs Z H σ S e A D fl S' e' hs hf k => by
  unfold sMth at hf
  cases h1 : f S e with
  | none => rw [h1] at hf; cases hf
  | some z =>
    obtain ⟨cs, e1⟩ := z
    rw [h1] at hf
    simp only [Option.bind_eq_bind, Option.bind_some] at hf
    split at hf
    · rename_i us hi
      split at hf
      · rename_i ho
        cases h2 : h us (ts cs) with
        | none => rw [h2] at hf; cases hf
        | some us' =>
          simp only [h2, Option.bind_some, Option.some.injEq, Prod.mk.injEq] at hf
          obtain ⟨rfl, rfl, rfl⟩ := hf
          obtain ⟨l, xs, B, v1, v2, v3, v4, v5, v6⟩ := hs.lst hi
          refine ⟨.ref l, v1, .inl ⟨rfl, xs, SqL.of v2⟩, ?_⟩
          refine ha p Fs Z H σ S e A _ cs e1 hs h1 fun ws H1 C q => ?_
          have lF : l ∉ Fs := hs.ds i _ hi l (by rw [v4]; exact List.mem_cons_self)
          have hl1 : H1 l = some (.lst xs) := q.mv l _ v2 lF
          obtain ⟨q1, q2, q3⟩ := EA.item hs q ho
          have nlC : l ∉ C := fun z => by rw [q2 l z] at v2; cases v2
          have BF : ∀ a ∈ B, a ∉ Fs := fun a m => hs.ds i _ hi a (by rw [v4]; exact List.mem_cons_of_mem _ m)
          have nBC : (B ++ C).Nodup := List.nodup_append.mpr ⟨v6, q1, fun a ma b mb z => by
            subst z
            obtain ⟨u, hu⟩ := v3.there ma
            rw [q2 a mb] at hu
            cases hu⟩
          refine hL p H1 l xs ws us (ts cs) us' B C _ hl1 (v3.move q.mv hs.src.mut BF) q.vw h2 nBC fun v xs' B' w1 w2 w3 => ?_
          obtain ⟨A', r1, r2⟩ := SR.relist (pn := pn) (us' := us') hs (hs.behindA q) (Go.ex hs q.mv q.src) hi v1 hl1 v4 w1 w3 (fun z => (w2 l z).elim v5 nlC) (fun b m => (w2 b m).imp (fun z => z) fun z => ⟨q2 b z, q3 b z⟩)
          exact k _ _ _ r1 r2
      · cases hf
    · cases hf
theorem ds_mth (i : Nat) {x m : Str} {a : Expr} {es : List Expr} {id : String} {r : V → List V → Hp → VK → Prop} {h : List T → List T → Option (List T)} {ta : TA} {f : Ax} {p1 p2 p3 : Pos} (slot : Slot "list" m id) (hty : typeOf (.builtin id) = pure (.type "method_descriptor")) (hm : MtR X id r) (hL : LM X.K r h)
    (ha : DA K X (a :: es) ta f) (hK : X.K = K := by rfl) (hN : X.N[i]? = some x := by rfl) (hv : Vis X.env.scope x := by first | exact Or.inl rfl | exact Or.inr (Or.inl rfl) | exact Or.inr (Or.inr rfl)) (hd : (x == ("__debug__" : Str)) = false := by decide)
    (hcd : (x == ("__classdict__" : Str)) = false := by decide)
    (hbase : attributeBase (.Name x p1) m X.env (eval (.Name x p1) X.env) = eval (.Name x p1) X.env := by rfl)
    (hfew : ((backTo p3 (starEach (a :: es) X.env)).all (fun x => !x.1) && (backToKw p3 (keywordEach [] X.env)).all (fun x => x.1.isSome)
      && decide ((a :: es).length + ([] : List Keyword).length + (if ([] : List Keyword).isEmpty then 0 else 1) < 30)) = true := by rfl)
    (hline : (p2.endLine == p3.line) = true := by rfl) (hs1 : starEach (a :: es) X.env = (false, eval a X.env) :: starEach es X.env := by rfl) (hplain : (backTo p3 (starEach es X.env)).any (·.1) = false := by rfl)
    (hs : swapsWith (.Call (.Attribute (.Name x p1) m p2) (a :: es) [] p3) none pos.line X.env = pure false := by rfl) :
    DS K X pn (.Expr (.Call (.Attribute (.Name x p1) m p2) (a :: es) [] p3) pos) (tDrop (tBM K "list" r (tVar i) ta)) (sMth i h f) := by
  subst hK
  exact ⟨ps_expr (pe_bm PySem.F.plainAttrs_list slot hty hm (pe_var hN hv hd hcd) ha.pa hbase hfew hline hs1 hplain) hs, rds_mth i hL ha.rd⟩
theorem rd_tBM0 {r : V → List V → Hp → VK → Prop} {t : TE} : tBM0 K "list" r t = tBM K "list" r t tNil := rfl
theorem ds_mth0 (i : Nat) {x m : Str} {id : String} {r : V → List V → Hp → VK → Prop} {h : List T → List T → Option (List T)} {p1 p2 p3 : Pos} (slot : Slot "list" m id) (hty : typeOf (.builtin id) = pure (.type "method_descriptor")) (hm : MtR X id r) (hL : LM X.K r h)
    (hK : X.K = K := by rfl) (hN : X.N[i]? = some x := by rfl) (hv : Vis X.env.scope x := by first | exact Or.inl rfl | exact Or.inr (Or.inl rfl) | exact Or.inr (Or.inr rfl)) (hd : (x == ("__debug__" : Str)) = false := by decide)
    (hcd : (x == ("__classdict__" : Str)) = false := by decide)
    (hbase : attributeBase (.Name x p1) m X.env (eval (.Name x p1) X.env) = eval (.Name x p1) X.env := by rfl) (hline : (p2.endLine == p3.line) = true := by rfl)
    (hs : swapsWith (.Call (.Attribute (.Name x p1) m p2) [] [] p3) none pos.line X.env = pure false := by rfl) :
    DS K X pn (.Expr (.Call (.Attribute (.Name x p1) m p2) [] [] p3) pos) (tDrop (tBM0 K "list" r (tVar i))) (sMth i h aNil) := by
  subst hK
  exact ⟨ps_expr (pe_bm0 PySem.F.plainAttrs_list slot hty hm (pe_var hN hv hd hcd) hbase hline) hs, rds_mth i hL rda_nil⟩

/-! append(x) -/
def hApp : List T → List T → Option (List T)
  | us, [t] => if us.length < sizeLine then some (us ++ [t]) else none
  | _, _ => none
theorem lm_app : LM K rAppend hApp := fun p H l xs vs us ts us' B C Q hl h1 h2 hh nd k => by
  unfold hApp at hh
  split at hh
  · rename_i t
    split at hh
    · rename_i hz
      cases hh
      obtain ⟨y, rfl, h5⟩ := vwl1 h2
      refine ⟨l, xs, y, rfl, rfl, hl, by rw [h1.length]; exact hz, k _ _ (B ++ C) (VwL.snoc h1 h5) (fun b m => List.mem_append.mp m) nd⟩
    · cases hh
  · cases hh
/-! pop() -/
def hPop : List T → List T → Option (List T)
  | us, [] => if us = [] then none else some us.dropLast
  | _, _ => none
theorem lm_pop : LM K rPop hPop := fun p H l xs vs us ts us' B C Q hl h1 h2 hh nd k => by
  cases ts with
  | cons t ts => cases hh
  | nil =>
    cases h2
    simp only [hPop] at hh
    by_cases e : us = []
    · rw [if_pos e] at hh; cases hh
    · rw [if_neg e] at hh
      cases hh
      have hlen : xs.length = us.length := h1.length
      have hpos : 0 < us.length := List.length_pos_iff.mpr e
      have hx : xs[xs.length - 1]? = some (xs[xs.length - 1]'(by omega)) := List.getElem?_eq_getElem (by omega)
      obtain ⟨B', q1, q2, q3⟩ := h1.take (us.length - 1)
      refine ⟨l, xs, _, rfl, rfl, hl, hx, k _ _ B' ?_ (fun b m => .inl (q2 b m)) (q3 (List.nodup_append.mp nd).1)⟩
      rw [List.dropLast_eq_take, List.dropLast_eq_take, hlen]
      exact q1
/-! insert(i, x), flat -/
def hIns : List T → List T → Option (List T)
  | us, [.int i, t] => if us.all T.flat && t.flat && decide (us.length < sizeLine) && decide (0 ≤ i) && decide (i < 2 ^ 63) then some (us.take i.toNat ++ [t] ++ us.drop i.toNat) else none
  | _, _ => none
theorem lm_ins : LM K (fun x vs H Q => ∃ (l : Addr) (xs : List V) (i : Int) (y : V), x = .ref l ∧ vs = [.int i, y] ∧ H l = some (.lst xs) ∧ xs.length < sizeLine ∧ 0 ≤ i ∧ i < 2 ^ 63 ∧ Q .non (upd H l (.lst (xs.take i.toNat ++ [y] ++ xs.drop i.toNat)))) hIns := fun p H l xs vs us ts us' B C Q hl h1 h2 hh nd k => by
  unfold hIns at hh
  split at hh
  · rename_i i t
    split at hh
    · rename_i hc
      cases hh
      simp only [Bool.and_eq_true, decide_eq_true_iff] at hc
      obtain ⟨⟨⟨⟨f1, f2⟩, hz⟩, i0⟩, i1⟩ := hc
      have eB := h1.flat f1
      subst eB
      cases h2 with
      | cons h3 h4 =>
        cases h3
        obtain ⟨y, rfl, h5⟩ := vwl1 h4
        have eC := h5.flat f2
        subst eC
        obtain ⟨B1, q1, q2, _⟩ := h1.take i.toNat
        obtain ⟨B2, r1, r2, _⟩ := h1.drop i.toNat
        have e1 : B1 = [] := List.eq_nil_iff_forall_not_mem.mpr fun b m => absurd (q2 b m) List.not_mem_nil
        have e2 : B2 = [] := List.eq_nil_iff_forall_not_mem.mpr fun b m => absurd (r2 b m) List.not_mem_nil
        subst e1 e2
        exact ⟨l, xs, i, y, rfl, rfl, hl, by rw [h1.length]; exact hz, i0, i1, k _ _ [] ((q1.app (.cons h5 .nil)).app r1) (fun b m => absurd m List.not_mem_nil) List.nodup_nil⟩
    · cases hh
  · cases hh
/-! extend(t), t a tuple or a new list -/
theorem list_extend_tup (l : Addr) (items : Array Value) (n : Nat) (b : Addr) (items2 : Array Value) (n2 : Nat) (dd : Option Addr) (sl : Array (Option Value)) (hs0 : ¬(!items.isEmpty && Builtin.List.listTooLong (items.size + items2.size)) = true) (hs1 : items.size ≤ sizeLine) (hs2 : items.size + items2.size ≤ sizeLine + 1) :
    Meets (Builtin.«list.extend» ⟨[.ref l, .ref b], []⟩) (fun _ R s => s.heap.get? l = some { cls := .type "list", dict := none, data := .seq items n, slots := #[] } ∧ s.heap.get? b = some { cls := .type "tuple", dict := dd, data := .seq items2 n2, slots := sl } ∧ R (.ok (.ret Value.none)) { s with heap := s.heap.update l (Obj.mapSeq fun x => x ++ items2), toks := s.toks }) :=
  .of_wp fun prog w A R s h => by
    obtain ⟨hp, g, d, tk, os⟩ := s; obtain ⟨hl, hb, h⟩ := h
    have f1 := AutoSeq1.idx_int; have f2 := AutoSeq1.sub_tuple_tuple; have f3 := AutoSeq1.sub_list_list; have f4 := AutoSeq1.sub_tuple_list; have f5 := AutoSeq1.sub_list_tuple
    have hz' : (items ++ items2).size ≤ sizeLine + 1 := by rw [Array.size_append]; exact hs2
    wp_walk using (wpAny_updateSeq hl rfl (hz := hs1) (_hz' := hz')), wpAny_loadPart' hl, wpAny_loadPart' hb
    exact ⟨_, rfl, h⟩
def rExT (K : PySem.W.Frag) : V → List V → Hp → VK → Prop := fun x vs H Q => ∃ l b xs zs, x = .ref l ∧ vs = [.ref b] ∧ H l = some (.lst xs) ∧ SqT K H b zs ∧ xs.length + zs.length ≤ sizeLine ∧ Q .non (upd H l (.lst (xs ++ zs)))
theorem mt_exT : MtR X "list.extend" (rExT X.K) := by
  intro pins s σ H x vs v us Q I rx rv h
  obtain ⟨l, b, xs, zs, rfl, rfl, hH, hB, hz, q⟩ := h
  cases rx
  obtain ⟨u, rfl, ru⟩ := rv.one
  cases ru
  obtain ⟨z, its, n, r, hl, e⟩ := I.lstM hH
  obtain ⟨its2, r2, ⟨⟨cls, dd, data, sl⟩, ho, hc, n2, hd⟩, hz2⟩ := I.tuple hB
  simp only at hc hd
  subst hc hd
  have hl2 := r2.length
  have hsz : its.toArray.size + its2.toArray.size ≤ sizeLine := by rw [List.size_toArray, List.size_toArray]; omega
  have hlong : ¬ (!its.toArray.isEmpty && Builtin.List.listTooLong (its.toArray.size + its2.toArray.size)) = true := by
    rw [notLongL hsz, Bool.and_false]
    exact Bool.false_ne_true
  refine call_meets PySem.F.slot_list_extend ⟨_, e, rfl⟩ PySem.F.entry_list_extend (PySem.F.args_list_extend_2 _ _)
    (list_extend_tup l its.toArray n b its2.toArray n2 dd sl hlong (by rw [List.size_toArray]; omega) (by omega)) ⟨e, ho, ?_⟩
  refine ⟨.non, _, I.lset (its' := its ++ its2) hH e (by simp) (r.append r2) ?_, rfl, q⟩
  rw [List.length_append]
  omega
def hExT : List T → List T → Option (List T)
  | us, [.tup vs] => if us.length + vs.length ≤ sizeLine then some (us ++ vs) else none
  | _, _ => none
theorem lm_exT : LM K (rExT K) hExT := fun p H l xs vs us ts us' B C Q hl h1 h2 hh nd k => by
  unfold hExT at hh
  split at hh
  · rename_i ws
    split at hh
    · rename_i hz
      cases hh
      obtain ⟨y, rfl, h5⟩ := vwl1 h2
      cases h5 with
      | tup h6 h7 =>
        refine ⟨l, _, xs, _, rfl, rfl, hl, h6.t, by rw [h1.length, h7.length]; exact hz, k _ _ B ?_ (fun b m => .inl m) (List.nodup_append.mp nd).1⟩
        have := h1.app h7
        rw [List.append_nil] at this
        exact this
    · cases hh
  · cases hh
end
end DL

set_option Elab.async false
set_option linter.all false
set_option maxRecDepth 100000
set_option maxHeartbeats 1000000
namespace DL
open PySem PySem.Spec PyProof.Rows L2

/-! ### fields of an object -/
def fldT : List Str → List T → Str → Option T
  | n :: ns, t :: ts, f => if f = n then some t else fldT ns ts f
  | _, _, _ => none
def putN (f : Str) : List Str → List Str
  | [] => [f]
  | n :: ns => if n = f then n :: ns else n :: putN f ns
def putT (f : Str) (u : T) : List Str → List T → List T
  | n :: ns, t :: ts => if n = f then u :: ts else t :: putT f u ns ts
  | _, _ => [u]
section
variable {K : PySem.W.Frag} {p : Addr} {H : Hp}
theorem fld_at : ∀ {fs : List (Str × V)} {ts : List T} {A : List Addr} {f : Str} {t : T}, VwL K p H (fs.map (·.2)) ts A → fldT (fs.map (·.1)) ts f = some t → ∃ v B, fs.lookup f = some v ∧ Vw K p H v t B ∧ (∀ a ∈ B, a ∈ A) ∧ (A.Nodup → B.Nodup)
  | [], _, _, _, _, h, e => by
    cases h
    cases e
  | (n, v) :: fs, _, _, f, t, h, e => by
    cases h with
    | cons h1 h2 =>
      rename_i t0 ts0 _ _
      have e : (if f = n then some t0 else fldT (fs.map (·.1)) ts0 f) = some t := e
      by_cases z : f = n
      · rw [if_pos z] at e
        cases e
        have hb : (f == n) = true := beq_iff_eq.mpr z
        exact ⟨v, _, by simp only [List.lookup, hb], h1, fun a m => List.mem_append_left _ m, fun n => (List.nodup_append.mp n).1⟩
      · rw [if_neg z] at e
        have hb : (f == n) = false := beq_eq_false_iff_ne.mpr z
        obtain ⟨w, B, q1, q2, q3, q4⟩ := fld_at h2 e
        exact ⟨w, B, by simp only [List.lookup, hb]; exact q1, q2, fun a m => List.mem_append_right _ (q3 a m), fun n => q4 (List.nodup_append.mp n).2.1⟩
theorem fld_put {y : V} {u : T} {B : List Addr} {f : Str} (hy : Vw K p H y u B) : ∀ {fs : List (Str × V)} {ts : List T} {A : List Addr}, VwL K p H (fs.map (·.2)) ts A → ∃ C, VwL K p H ((putF f y fs).map (·.2)) (putT f u (fs.map (·.1)) ts) C ∧ (putF f y fs).map (·.1) = putN f (fs.map (·.1)) ∧
    (∀ a ∈ C, a ∈ A ∨ a ∈ B) ∧ ((A ++ B).Nodup → C.Nodup)
  | [], _, _, h => by
    cases h
    refine ⟨B, ?_, rfl, fun a m => .inr m, fun n => n⟩
    have q : VwL K p H [y] [u] (B ++ []) := .cons hy .nil
    rw [List.append_nil] at q
    exact q
  | (n, v) :: fs, _, _, h => by
    cases h with
    | @cons _ _ t ts A1 A2 h1 h2 =>
      by_cases z : n = f
      · refine ⟨B ++ A2, ?_, ?_, fun a m => ?_, fun nd => ?_⟩
        · show VwL K p H ((if n = f then (n, y) :: fs else (n, v) :: putF f y fs).map (·.2)) (if n = f then u :: ts else t :: putT f u (fs.map (·.1)) ts) _
          rw [if_pos z, if_pos z]
          exact .cons hy h2
        · show (if n = f then (n, y) :: fs else (n, v) :: putF f y fs).map (·.1) = if n = f then n :: fs.map (·.1) else n :: putN f (fs.map (·.1))
          rw [if_pos z, if_pos z]
          rfl
        · rcases List.mem_append.mp m with m | m
          · exact .inr m
          · exact .inl (List.mem_append_right _ m)
        · have q := List.nodup_append.mp nd
          have q2 := List.nodup_append.mp q.1
          exact List.nodup_append.mpr ⟨q.2.1, q2.2.1, fun a ma b mb e => q.2.2 b (List.mem_append_right _ mb) a ma e.symm⟩
      · obtain ⟨C, r1, r2, r3, r4⟩ := fld_put hy h2
        refine ⟨A1 ++ C, ?_, ?_, fun a m => ?_, fun nd => ?_⟩
        · show VwL K p H ((if n = f then (n, y) :: fs else (n, v) :: putF f y fs).map (·.2)) (if n = f then u :: ts else t :: putT f u (fs.map (·.1)) ts) _
          rw [if_neg z, if_neg z]
          exact .cons h1 r1
        · show (if n = f then (n, y) :: fs else (n, v) :: putF f y fs).map (·.1) = if n = f then n :: fs.map (·.1) else n :: putN f (fs.map (·.1))
          rw [if_neg z, if_neg z, List.map_cons, r2]
        · rcases List.mem_append.mp m with m | m
          · exact .inl (List.mem_append_left _ m)
          · rcases r3 a m with m | m
            · exact .inl (List.mem_append_right _ m)
            · exact .inr m
        · have q := List.nodup_append.mp nd
          have q2 := List.nodup_append.mp q.1
          have nC := r4 (List.nodup_append.mpr ⟨q2.2.1, q.2.1, fun a ma b mb => q.2.2 a (List.mem_append_right _ ma) b mb⟩)
          refine List.nodup_append.mpr ⟨q2.1, nC, fun a ma b mb e => ?_⟩
          rcases r3 b mb with m | m
          · exact q2.2.2 a ma b m e
          · exact q.2.2 a (List.mem_append_left _ ma) b m e
end
/-- o.f -/
def xFld (C0 : Addr) (f : Str) (fe : Ex) : Ex := fun S e => do
  let (c, e) ← fe S e
  match c.t with
  | .obj C ns ts => if C = C0 then (fldT ns ts f).map fun t => (nk (match c.k with | .shr => .shr | _ => .vw) t, e) else none
  | _ => none
section
variable {K : PySem.W.Frag} {X : Cx} {pn q : Bool} {pos : Pos} {o : Expr} {C0 : Addr} {f : Str}
theorem rd_fld {to : TE} {fe : Ex} (hc : Cls K C0) (hn : NoAttr K C0 f) (h : Rd K to fe) : Rd K (tFld K to f) (xFld C0 f fe) := fun p Fs Z H σ S e A Q c e' hs hf k => by
  unfold xFld at hf
  cases h1 : fe S e with
  | none => rw [h1] at hf; cases hf
  | some z =>
    obtain ⟨⟨kc, tc⟩, e1⟩ := z
    rw [h1] at hf
    simp only [Option.bind_eq_bind, Option.bind_some] at hf
    cases tc with
    | obj C ns ts =>
      simp only at hf
      split at hf
      · rename_i ec
        subst ec
        rw [Option.map_eq_some_iff] at hf
        obtain ⟨t, ht, e2⟩ := hf
        simp only [Prod.mk.injEq] at e2
        obtain ⟨rfl, rfl⟩ := e2
        refine h p Fs Z H σ S e A _ _ e1 hs h1 fun v H1 B q => ?_
        have hv : Vw K p H1 v (.obj C ns ts) B := q.vw
        cases hv with
        | @obj a _ dx fs _ A1 g1 g2 =>
          obtain ⟨w, D, r1, r2, r3, _⟩ := fld_at g2 ht
          refine ⟨a, C, dx, fs, w, rfl, g1, hc, hn, r1, k w H1 D (EQ.of r2 q.src q.mv (fun b m => q.df b (List.mem_cons_of_mem _ (r3 b m))) (fun z => ?_) (fun z b m i t0 hi => ?_) fun b m => q.sub b (List.mem_cons_of_mem _ (r3 b m)))⟩
          · cases kc <;> cases z
          · have hk : kc = .shr := by cases kc <;> first | rfl | cases z
            subst hk
            exact q.shr rfl b (List.mem_cons_of_mem _ (r3 b m)) i t0 hi
      · cases hf
    | _ => cases hf
theorem dx_fld {to : TE} {fe : Ex} {pos' : Pos} (hc : Cls K C0) (hn : NoAttr K C0 f) (h : DX K X o to fe) (hK : X.K = K := by rfl) (hb : attributeBase o f X.env (eval o X.env) = eval o X.env := by rfl) : DX K X (.Attribute o f pos') (tFld K to f) (xFld C0 f fe) := by
  subst hK
  exact ⟨pe_fld h.pe hb, rd_fld hc hn h.rd⟩

/-! ### o.f = v -/
def gFldG (K : PySem.W.Frag) (to : TE) (f : Str) : TG := fun v σ H Q => to σ H fun x H1 => ∃ a C dx fs, x = .ref a ∧ H1 a = some (.ins C dx fs) ∧ Cls K C ∧ NoAttr K C f ∧ fs.length < 1000 ∧ Q σ (upd H1 a (.ins C dx (putF f v fs)))
theorem pg_fld {to : TE} {pos' : Pos} (ho : PE X o to) : PG X (.Attribute o f pos') (gFldG X.K to f) := by
  refine ⟨fun pins s σ H v u Q I r h => ?_⟩
  rw [assign_Attribute]
  refine wpAny_bind (wpAny_holding (thn (ho.run pins s σ H _ I h) fun ov s1 ⟨x, H1, I1, r1, a, C, dx, fs, ex, ea, c, n, l, q⟩ => ?_))
  subst ex
  obtain rfl : ov = Value.ref a := r1
  refine wpAny_bind (wpAny_standAt (wpAny_bind (wpAny_holding ?_)))
  refine setattr_ok I1 ea c n l r fun s2 I2 => ?_
  exact wpAny_release ⟨σ, _, I2, q⟩
def gFld (i : Nat) (C0 : Addr) (f : Str) : Gx := fun c S e => match S[i]? with
  | some (some ⟨.own, .obj C ns ts⟩) => if C = C0 ∧ okItem c = true ∧ ns.length < 1000 then some (S.set i (some ⟨.own, .obj C (putN f ns) (putT f c.t ns ts)⟩), e) else none
  | _ => none
/-- a slot's own object, what is known of it -/
theorem SR.at {p : Addr} {Fs : List Addr} {Z : Addr → Prop} {H : Hp} {σ : L2.St} {S : Slots} {e : Option Src} {A : Nat → List Addr} {i : Nat} {t : T} (h : SR K p Fs Z H σ S e A) (hi : S[i]? = some (some ⟨.own, t⟩)) : ∃ v, σ[i]? = some (some v) ∧ Vw K p H v t (A i) ∧ (A i).Nodup := by
  obtain ⟨_, v, h1, h2⟩ := h.slot i _ hi
  exact ⟨v, h1, h2, h.nd i _ hi⟩
/-- as SR.chg, with what stays -/
theorem Sto.chg {i : Nat} {σ : L2.St} {S : Slots} {A : Nat → List Addr} {H : Hp} {B : List Addr} {a : Addr} {o : HO} {c : Option Cell} (mu : MutK (H a)) : Sto false [i] σ S A H σ (S.set i c) (putA A i B) (upd H a o) := by
  refine ⟨rfl, fun j hj => ?_, fun b u e n => ?_, fun z => nomatch z⟩
  · have nj : i ≠ j := fun z => hj (by rw [z]; exact List.mem_singleton.mpr rfl)
    exact ⟨rfl, List.getElem?_set_ne nj, putA_ne (fun z => nj z.symm)⟩
  · rw [upd_ne]
    · exact e
    · intro z; subst z; rw [e] at mu; exact n mu
theorem rdg_fld (i : Nat) (hc : Cls K C0) (hn : NoAttr K C0 f) : RdG K pn false [i] (gFldG K (tVar i) f) (gFld i C0 f) := fun p Fs Z H σ S e A c e1 v H1 B Q S' e' hs eq hg k => by
  unfold gFld at hg
  split at hg
  · rename_i C ns ts hi
    split at hg
    · rename_i hz
      obtain ⟨rfl, ho, hl⟩ := hz
      simp only [Option.some.injEq, Prod.mk.injEq] at hg
      obtain ⟨rfl, rfl⟩ := hg
      have hs1 := hs.behind eq
      obtain ⟨w, w1, w2, w3⟩ := hs1.at hi
      generalize hA : A i = D at w2 w3
      cases w2 with
      | @obj a _ dx fs _ A1 g1 g2 =>
        have nd := List.nodup_cons.mp w3
        obtain ⟨q1, q2, q3⟩ := EQ.item hs eq ho
        have old : ∀ b ∈ A1, ∃ u, H b = some u := fun b m => by
          obtain ⟨_, v0, _, q0⟩ := hs.slot i _ hi
          exact q0.there (by rw [hA]; exact List.mem_cons_of_mem _ m)
        have oldA : ∃ u, H a = some u := by
          obtain ⟨_, v0, _, q0⟩ := hs.slot i _ hi
          exact q0.there (by rw [hA]; exact List.mem_cons_self)
        obtain ⟨C', r1, r2, r3, r4⟩ := fld_put (f := f) eq.vw g2
        have nA1B : (A1 ++ B).Nodup := List.nodup_append.mpr ⟨nd.2, q1, fun x mx y my z => by
          subst z
          obtain ⟨u, hu⟩ := old x mx
          rw [q2 x my] at hu
          cases hu⟩
        have naC : a ∉ C' := fun z => by
          rcases r3 a z with z | z
          · exact nd.1 z
          · obtain ⟨u, hu⟩ := oldA
            rw [q2 a z] at hu
            cases hu
        have mu : MutK (H1 a) := by rw [g1]; exact True.intro
        have im : Im H1 (upd H1 a (.ins C dx (putF f v fs))) := fun b u e1 n => by
          rw [upd_ne]
          · exact e1
          · intro z; subst z; rw [e1] at mu; exact n mu
        have hv' : Vw K p (upd H1 a (.ins C dx (putF f v fs))) (.ref a) (.obj C (putN f (fs.map (·.1))) (putT f c.t (fs.map (·.1)) ts)) (a :: C') := by
          rw [← r2]
          exact .obj upd_same (r1.stay im fun b u m e1 => by rw [upd_ne (fun z => naC (by rw [← z]; exact m))]; exact e1)
        have q := SR.chg (pn := pn) hs1 hi w1 (by rw [hA]; exact List.mem_cons_self) (o := .ins C dx (putF f v fs)) (show MutK (some (HO.ins C dx (putF f v fs))) from True.intro) hv' (List.nodup_cons.mpr ⟨naC, r4 nA1B⟩) (fun b m => by
          rcases List.mem_cons.mp m with z | m
          · rw [z, hA]; exact .inl List.mem_cons_self
          · rcases r3 b m with w | w
            · rw [hA]; exact .inl (List.mem_cons_of_mem _ w)
            · exact .inr (q3 b w))
        refine ⟨.ref a, w1, a, C, dx, fs, rfl, g1, hc, hn, by rw [List.length_map] at hl; exact hl, ?_⟩
        refine k _ _ _ q.1 (q.2 H A S (Go.ex hs eq.mv eq.src) fun b m => ?_) (Sto.chg mu)
        rcases List.mem_cons.mp m with z | m
        · rw [z, hA]; exact .inl List.mem_cons_self
        · rcases r3 b m with w | w
          · rw [hA]; exact .inl (List.mem_cons_of_mem _ w)
          · exact .inr (q2 b w)
    · cases hg
  · cases hg
theorem dg_fld (i : Nat) {x : Str} {p1 p2 : Pos} (hc : Cls K C0) (hn : NoAttr K C0 f) (hK : X.K = K := by rfl) (hN : X.N[i]? = some x := by rfl) (hv : Vis X.env.scope x := by first | exact Or.inl rfl | exact Or.inr (Or.inl rfl) | exact Or.inr (Or.inr rfl)) (hd : (x == ("__debug__" : Str)) = false := by decide)
    (hcd : (x == ("__classdict__" : Str)) = false := by decide) : DG K X pn false (.Attribute (.Name x p1) f p2) [i] (gFldG K (tVar i) f) (gFld i C0 f) := by
  subst hK
  exact ⟨pg_fld (pe_var hN hv hd hcd), rdg_fld i hc hn⟩

/-! ### x[i] = v, o.f[i] = v: lists of flat things -/
theorem VwL.setF {p : Addr} {H : Hp} {v : V} {t : T} (h : Vw K p H v t []) : ∀ {vs : List V} {us : List T}, VwL K p H vs us [] → ∀ j : Nat, VwL K p H (vs.set j v) (us.set j t) [] := by
  intro vs us hv j
  generalize hA : ([] : List Addr) = A at hv
  induction vs generalizing us A j with
  | nil => cases hv; exact .nil
  | cons w ws ih =>
    cases hv with
    | @cons _ _ t1 us1 A1 A2 h1 h2 =>
      have e1 : A1 = [] := List.append_eq_nil_iff.mp hA.symm |>.1
      have e2 : A2 = [] := List.append_eq_nil_iff.mp hA.symm |>.2
      subst e1 e2
      cases j with
      | zero => exact .cons h h2
      | succ j => exact .cons h1 (ih j [] rfl h2)
def gIxL (i : Nat) (fi : Ex) : Gx := fun c S e => do
  let (d, e) ← fi S e
  match S[i]?, d.t with
  | some (some ⟨.own, .lst us⟩), .int k => if us.all T.flat && c.t.flat then (ixN us.length k).map fun j => (S.set i (some ⟨.own, .lst (us.set j c.t)⟩), e) else none
  | _, _ => none
theorem rdg_ixL (i : Nat) {ti : TE} {fi : Ex} (h : Rd K ti fi) : RdG K pn false [i] (L2.gSub (tVar i) ti rSetL) (gIxL i fi) := fun p Fs Z H σ S e A c e1 v H1 B Q S' e' hs eq hg k => by
  unfold gIxL at hg
  cases h1 : fi S e1 with
  | none => rw [h1] at hg; cases hg
  | some z =>
    obtain ⟨⟨kd, td⟩, e2⟩ := z
    rw [h1] at hg
    simp only [Option.bind_eq_bind, Option.bind_some] at hg
    split at hg
    · rename_i us n hi
      split at hg
      · rename_i hz
        rw [Bool.and_eq_true] at hz
        rw [Option.map_eq_some_iff] at hg
        obtain ⟨j, hj, e3⟩ := hg
        simp only [Prod.mk.injEq] at e3
        obtain ⟨rfl, rfl⟩ := e3
        have hs1 := hs.behind eq
        obtain ⟨w, w1, w2, w3⟩ := hs1.at hi
        refine ⟨w, w1, ?_⟩
        refine h p Fs Z H1 σ S e1 A _ _ e2 hs1 h1 fun x H2 B2 q2 => ?_
        have hx : Vw K p H2 x (.int n) B2 := q2.vw
        cases hx
        have hs2 := hs1.behind q2
        have eq2 := EQ.more hs eq q2.mv q2.src
        have w2' : Vw K p H2 w (.lst us) (A i) := w2.move q2.mv hs1.src.mut (hs1.ds i _ hi)
        generalize hA : A i = D at w2'
        cases w2' with
        | @lst a xs _ A1 g1 g2 =>
          have eA := g2.flat hz.1
          subst eA
          have eB := eq2.vw.flat hz.2
          subst eB
          have mu : MutK (H2 a) := by rw [g1]; exact True.intro
          have im : Im H2 (upd H2 a (.lst (xs.set j v))) := fun b u e1 n => by
            rw [upd_ne]
            · exact e1
            · intro z; subst z; rw [e1] at mu; exact n mu
          have hv' : Vw K p (upd H2 a (.lst (xs.set j v))) (.ref a) (.lst (us.set j c.t)) [a] := .lst upd_same ((VwL.setF eq2.vw g2 j).stay im fun b u m e1 => absurd m List.not_mem_nil)
          have q := SR.chg (pn := pn) hs2 hi w1 (by rw [hA]; exact List.mem_cons_self) (o := .lst (xs.set j v)) (show MutK (some (HO.lst (xs.set j v))) from True.intro) hv' (by simp) (fun b m => by rw [hA]; exact .inl m)
          have st : Sto false [i] σ S A H1 σ (S.set i (some ⟨.own, .lst (us.set j c.t)⟩)) (putA A i [a]) (upd H2 a (.lst (xs.set j v))) := by
            have s0 : Sto false [i] σ S A H2 σ (S.set i (some ⟨.own, .lst (us.set j c.t)⟩)) (putA A i [a]) (upd H2 a (.lst (xs.set j v))) := Sto.chg mu
            refine ⟨s0.len, s0.out, fun b u e1 n => s0.im b u (q2.mv b u e1 fun z => ?_) n, fun z => nomatch z⟩
            have mu1 := hs1.src.mut b z
            rw [e1] at mu1
            exact n mu1
          refine ⟨a, xs, n, j, rfl, rfl, g1, by rw [g2.length]; exact hj, ?_⟩
          exact k _ _ _ q.1 (q.2 H A S (Go.ex hs (eq.mv.trans0 q2.mv) q2.src) fun b m => by rw [hA]; exact .inl m) st
      · cases hg
    · cases hg
theorem dg_ixL (i : Nat) {x : Str} {idx : Expr} {ti : TE} {fi : Ex} {p1 p2 : Pos} (h : DX K X idx ti fi) (hN : X.N[i]? = some x := by rfl) (hv : Vis X.env.scope x := by first | exact Or.inl rfl | exact Or.inr (Or.inl rfl) | exact Or.inr (Or.inr rfl)) (hd : (x == ("__debug__" : Str)) = false := by decide)
    (hcd : (x == ("__classdict__" : Str)) = false := by decide) (ha : ∀ v, assign (.Subscript (.Name x p1) idx p2) X.env v = (do
      let ov ← holding [v] (eval (.Name x p1) X.env)
      let iv ← holding [v, ov] (eval idx X.env)
      standAt p2
      holding [v, ov, iv] (setItem ov iv v)
      release [v, ov, iv] []) := by intro _; rfl) : DG K X pn false (.Subscript (.Name x p1) idx p2) [i] (L2.gSub (tVar i) ti rSetL) (gIxL i fi) :=
  ⟨pg_sub (pe_var hN hv hd hcd) h.pe set_list ha, rdg_ixL i h.rd⟩
/-- o.f[i] = v -/
def gIxF (i : Nat) (C0 : Addr) (f : Str) (fi : Ex) : Gx := fun c S e => do
  let (d, e) ← fi S e
  match S[i]?, d.t with
  | some (some ⟨.own, .obj C ns ts⟩), .int k => match fldT ns ts f with
    | some (.lst us) => if C = C0 ∧ (us.all T.flat && c.t.flat) = true then (ixN us.length k).map fun j => (S.set i (some ⟨.own, .obj C ns (putT f (.lst (us.set j c.t)) ns ts)⟩), e) else none
    | _ => none
  | _, _ => none
/-- one field's own list is changed -/
theorem fld_set {p : Addr} {H H' : Hp} {l : Addr} {us us' : List T} {xs' : List V} {f : Str} (hl : H' l = some (.lst xs')) (hk : ∀ b o, b ≠ l → H b = some o → H' b = some o) (mu : MutK (H l)) (hx : VwL K p H' xs' us' []) : ∀ {fs : List (Str × V)} {ts : List T} {A : List Addr}, VwL K p H (fs.map (·.2)) ts A → A.Nodup →
    fldT (fs.map (·.1)) ts f = some (.lst us) → us.all T.flat = true → fs.lookup f = some (.ref l) → VwL K p H' (fs.map (·.2)) (putT f (.lst us') (fs.map (·.1)) ts) A
  | [], _, _, h, _, e, _, _ => by cases h; cases e
  | (n, v) :: fs, _, _, h, nd, e, fl, lk => by
    have im : ∀ b o, H b = some o → ¬ MutK (some o) → H' b = some o := fun b o e n => hk b o (fun z => by subst z; rw [e] at mu; exact n mu) e
    cases h with
    | @cons _ _ t ts A1 A2 h1 h2 =>
      have q := List.nodup_append.mp nd
      have e : (if f = n then some t else fldT (fs.map (·.1)) ts f) = some (.lst us) := e
      show VwL K p H' (v :: fs.map (·.2)) (if n = f then .lst us' :: ts else t :: putT f (.lst us') (fs.map (·.1)) ts) (A1 ++ A2)
      by_cases z : f = n
      · rw [if_pos z] at e
        cases e
        rw [if_pos z.symm]
        have hb : (f == n) = true := beq_iff_eq.mpr z
        simp only [List.lookup, hb, Option.some.injEq] at lk
        subst lk
        cases h1 with
        | lst g1 g2 =>
          have eA := g2.flat fl
          subst eA
          refine .cons (.lst hl hx) (h2.stay im fun b o m e => hk b o (fun z => q.2.2 l List.mem_cons_self b m z.symm) e)
      · rw [if_neg z] at e
        rw [if_neg (fun y => z y.symm)]
        have hb : (f == n) = false := beq_eq_false_iff_ne.mpr z
        simp only [List.lookup, hb] at lk
        have r := fld_set hl hk mu hx h2 q.2.1 e fl lk
        refine .cons (h1.stay im fun b o m e0 => hk b o (fun y => ?_) e0) r
        obtain ⟨w, B, l1, l2, l3, _⟩ := fld_at h2 e
        rw [lk] at l1
        cases l1
        cases l2 with
        | lst g1 g2 => exact q.2.2 b m l (l3 l List.mem_cons_self) y
theorem putN_same {f : Str} : ∀ {ns : List Str} {ts : List T} {t : T}, fldT ns ts f = some t → putN f ns = ns
  | n :: ns, t0 :: ts, t, e => by
    unfold fldT at e
    unfold putN
    by_cases z : f = n
    · rw [if_pos z.symm]
    · rw [if_neg z] at e
      rw [if_neg (fun y => z y.symm), putN_same e]
  | [], _, _, e => by cases e
  | _ :: _, [], _, e => by cases e
theorem rdg_ixF (i : Nat) {ti : TE} {fi : Ex} (hc : Cls K C0) (hn : NoAttr K C0 f) (h : Rd K ti fi) : RdG K pn false [i] (L2.gSub (tFld K (tVar i) f) ti rSetL) (gIxF i C0 f fi) := fun p Fs Z H σ S e A c e1 v H1 B Q S' e' hs eq hg k => by
  unfold gIxF at hg
  cases h1 : fi S e1 with
  | none => rw [h1] at hg; cases hg
  | some z =>
    obtain ⟨⟨kd, td⟩, e2⟩ := z
    rw [h1] at hg
    simp only [Option.bind_eq_bind, Option.bind_some] at hg
    split at hg
    · rename_i C ns ts n hi
      split at hg
      · rename_i us hfl
        split at hg
        · rename_i hz
          obtain ⟨rfl, hz⟩ := hz
          rw [Bool.and_eq_true] at hz
          rw [Option.map_eq_some_iff] at hg
          obtain ⟨j, hj, e3⟩ := hg
          simp only [Prod.mk.injEq] at e3
          obtain ⟨rfl, rfl⟩ := e3
          have hs1 := hs.behind eq
          obtain ⟨w, w1, w2, w3⟩ := hs1.at hi
          refine ⟨w, w1, ?_⟩
          have w2s := w2
          generalize hA : A i = D at w2 w3
          cases w2 with
          | @obj a _ dx fs _ A1 g1 g2 =>
            obtain ⟨fv, FB, f1, f2, f3, f4⟩ := fld_at g2 hfl
            refine ⟨a, C, dx, fs, fv, rfl, g1, hc, hn, f1, ?_⟩
            refine h p Fs Z H1 σ S e1 A _ _ e2 hs1 h1 fun x H2 B2 q2 => ?_
            have hx : Vw K p H2 x (.int n) B2 := q2.vw
            cases hx
            have hs2 := hs1.behind q2
            have eq2 := EQ.more hs eq q2.mv q2.src
            have dsA : ∀ b ∈ a :: A1, b ∉ Fs := by rw [← hA]; exact hs1.ds i _ hi
            have g1' : H2 a = some (.ins C dx fs) := q2.mv a _ g1 (dsA a List.mem_cons_self)
            have g2' : VwL K p H2 (fs.map (·.2)) ts A1 := g2.move q2.mv hs1.src.mut fun b m => dsA b (List.mem_cons_of_mem _ m)
            have f2' : Vw K p H2 fv (.lst us) FB := f2.move q2.mv hs1.src.mut fun b m => dsA b (List.mem_cons_of_mem _ (f3 b m))
            cases f2' with
            | @lst l xs _ A3 l1 l2 =>
              have eA := l2.flat hz.1
              subst eA
              have eB := eq2.vw.flat hz.2
              subst eB
              have nd := List.nodup_cons.mp w3
              have lA1 : l ∈ A1 := f3 l List.mem_cons_self
              have nla : a ≠ l := fun z => nd.1 (by rw [z]; exact lA1)
              have mu : MutK (H2 l) := by rw [l1]; exact True.intro
              have im : Im H2 (upd H2 l (.lst (xs.set j v))) := fun b u e1 n => by
                rw [upd_ne]
                · exact e1
                · intro z; subst z; rw [e1] at mu; exact n mu
              have hk : ∀ b o, b ≠ l → H2 b = some o → (upd H2 l (.lst (xs.set j v))) b = some o := fun b o n e0 => by rw [upd_ne n]; exact e0
              have hx' : VwL K p (upd H2 l (.lst (xs.set j v))) (xs.set j v) (us.set j c.t) [] := (VwL.setF eq2.vw l2 j).stay im fun b u m e1 => absurd m List.not_mem_nil
              have hv' : Vw K p (upd H2 l (.lst (xs.set j v))) (.ref a) (.obj C (fs.map (·.1)) (putT f (.lst (us.set j c.t)) (fs.map (·.1)) ts)) (a :: A1) :=
                .obj (hk a _ nla g1') (fld_set upd_same hk mu hx' g2' nd.2 hfl hz.1 f1)
              have q := SR.chg (pn := pn) hs2 hi w1 (by rw [hA]; exact List.mem_cons_of_mem _ lA1) (o := .lst (xs.set j v)) (show MutK (some (HO.lst (xs.set j v))) from True.intro) hv' w3 (fun b m => by rw [hA]; exact .inl m)
              have st : Sto false [i] σ S A H1 σ (S.set i (some ⟨.own, .obj C (fs.map (·.1)) (putT f (.lst (us.set j c.t)) (fs.map (·.1)) ts)⟩)) (putA A i (a :: A1)) (upd H2 l (.lst (xs.set j v))) := by
                have s0 : Sto false [i] σ S A H2 σ (S.set i (some ⟨.own, .obj C (fs.map (·.1)) (putT f (.lst (us.set j c.t)) (fs.map (·.1)) ts)⟩)) (putA A i (a :: A1)) (upd H2 l (.lst (xs.set j v))) := Sto.chg mu
                refine ⟨s0.len, s0.out, fun b u e1 n => s0.im b u (q2.mv b u e1 fun z => ?_) n, fun z => nomatch z⟩
                have mu1 := hs1.src.mut b z
                rw [e1] at mu1
                exact n mu1
              refine ⟨l, xs, n, j, rfl, rfl, l1, by rw [l2.length]; exact hj, ?_⟩
              exact k _ _ _ q.1 (q.2 H A S (Go.ex hs (eq.mv.trans0 q2.mv) q2.src) fun b m => by rw [hA]; exact .inl m) st
        · cases hg
      · cases hg
    · cases hg
theorem dg_ixF (i : Nat) {x : Str} {idx : Expr} {ti : TE} {fi : Ex} {p1 p2 p3 : Pos} (hc : Cls K C0) (hn : NoAttr K C0 f) (h : DX K X idx ti fi) (hK : X.K = K := by rfl) (hN : X.N[i]? = some x := by rfl) (hv : Vis X.env.scope x := by first | exact Or.inl rfl | exact Or.inr (Or.inl rfl) | exact Or.inr (Or.inr rfl)) (hd : (x == ("__debug__" : Str)) = false := by decide)
    (hcd : (x == ("__classdict__" : Str)) = false := by decide) (hb : attributeBase (.Name x p1) f X.env (eval (.Name x p1) X.env) = eval (.Name x p1) X.env := by rfl) (ha : ∀ v, assign (.Subscript (.Attribute (.Name x p1) f p3) idx p2) X.env v = (do
      let ov ← holding [v] (eval (.Attribute (.Name x p1) f p3) X.env)
      let iv ← holding [v, ov] (eval idx X.env)
      standAt p2
      holding [v, ov, iv] (setItem ov iv v)
      release [v, ov, iv] []) := by intro _; rfl) : DG K X pn false (.Subscript (.Attribute (.Name x p1) f p3) idx p2) [i] (L2.gSub (tFld K (tVar i) f) ti rSetL) (gIxF i C0 f fi) := by
  subst hK
  exact ⟨pg_sub (pe_fld (pe_var hN hv hd hcd) hb) h.pe set_list ha, rdg_ixF i hc hn h.rd⟩
end
end DL

set_option Elab.async false
set_option linter.all false
set_option maxRecDepth 100000
set_option maxHeartbeats 1000000
namespace DL
open PySem PySem.Spec PyProof.Rows L2

/-! ### several names at once, x op= e -/
section
variable {K : PySem.W.Frag} {X : Cx} {pn : Bool} {pos : Pos} {p : Addr} {Fs : List Addr} {Z : Addr → Prop} {H H1 : Hp} {σ : L2.St} {S : Slots} {e e1 : Option Src} {A : Nat → List Addr}
/-- a value that is nobody's else is put in a slot -/
theorem SR.place {d : Cell} {v : V} {B : List Addr} (h : SR K p Fs Z H σ S e A) (hv : Vw K p H v d.t B) (hk : d.k ≠ .vw) (hn : d.k = .own → B.Nodup) (hF : ∀ a ∈ B, a ∉ Fs) (hZ : ∀ a ∈ B, Z a) (hd : ∀ a ∈ B, ∀ j c, S[j]? = some (some c) → a ∉ A j) (i : Nat) :
    SR K p Fs Z H (σ.set i (some v)) (S.set i (some d)) e (putA A i B) := by
  refine ⟨by rw [List.length_set, List.length_set]; exact h.len, fun j c hj => ?_, fun j t hj => ?_, fun j l t c hj hl ne a m => ?_, h.src, fun j c hj a m => ?_, fun j c hj a m => ?_, h.zn⟩
  · rcases set_get hj with ⟨rfl, z⟩ | ⟨ne, z⟩
    · cases z
      have hlt : j < σ.length := by
        rw [h.len]
        have := (List.getElem?_eq_some_iff.mp hj).1
        rw [List.length_set] at this
        exact this
      exact ⟨hk, v, List.getElem?_set_self hlt, by rw [putA_same]; exact hv⟩
    · obtain ⟨k, u, u1, u2⟩ := h.slot j c z
      exact ⟨k, u, by rw [List.getElem?_set_ne (fun y => ne y.symm)]; exact u1, by rw [putA_ne ne]; exact u2⟩
  · rcases set_get hj with ⟨rfl, z⟩ | ⟨ne, z⟩
    · cases z
      rw [putA_same]
      exact hn rfl
    · rw [putA_ne ne]; exact h.nd j t z
  · rcases set_get hj with ⟨rfl, z⟩ | ⟨nj, z⟩
    · rw [putA_same] at m
      rcases set_get hl with ⟨rfl, y⟩ | ⟨nl, y⟩
      · exact absurd rfl ne
      · rw [putA_ne nl]; exact hd a m l c y
    · rw [putA_ne nj] at m
      rcases set_get hl with ⟨rfl, y⟩ | ⟨nl, y⟩
      · rw [putA_same]
        intro q
        exact hd a q j _ z m
      · rw [putA_ne nl]; exact h.dj j l t c z y ne a m
  · rcases set_get hj with ⟨rfl, z⟩ | ⟨ne, z⟩
    · rw [putA_same] at m; exact hF a m
    · rw [putA_ne ne] at m; exact h.ds j c z a m
  · rcases set_get hj with ⟨rfl, z⟩ | ⟨ne, z⟩
    · rw [putA_same] at m; exact hZ a m
    · rw [putA_ne ne] at m; exact h.z j c z a m
theorem keep_ok {c d : Cell} (h : keep c = some d) : d.t = c.t ∧ d.k ≠ .vw ∧ (d.k = .own → c.k = .own ∨ c.t.flat = true) := by
  unfold keep at h
  split at h
  · cases h; exact ⟨rfl, (fun z => nomatch z), fun z => nomatch z⟩
  · cases hk : c.k <;> rw [hk] at h <;> cases h
    · exact ⟨rfl, (fun z => nomatch z), fun _ => .inl rfl⟩
    · exact ⟨rfl, (fun z => nomatch z), fun z => nomatch z⟩
/-- cells put in slots, one after another -/
def putS (S : Slots) : List Nat → List Cell → Option Slots
  | [], [] => some S
  | i :: is, c :: cs => if okItem c then do
      let d ← keep c
      putS (S.set i (some d)) is cs
    else none
  | _, _ => none
def setV (σ : L2.St) : List Nat → List V → L2.St
  | i :: is, v :: vs => setV (σ.set i (some v)) is vs
  | _, _ => σ
theorem vwl_split {v : V} {vs : List V} {t : T} {us : List T} {B : List Addr} (h : VwL K p H (v :: vs) (t :: us) B) : ∃ B1 B2, B = B1 ++ B2 ∧ Vw K p H v t B1 ∧ VwL K p H vs us B2 := by
  cases h with
  | cons h1 h2 => exact ⟨_, _, rfl, h1, h2⟩
theorem SR.puts : ∀ {is : List Nat} {cs : List Cell} {vs : List V} {σ : L2.St} {S S' : Slots} {A : Nat → List Addr} {B : List Addr}, SR K p Fs Z H σ S e A → VwL K p H vs (ts cs) B → B.Nodup → (∀ a ∈ B, a ∉ Fs) → (∀ a ∈ B, Z a) → (∀ a ∈ B, ∀ j c, S[j]? = some (some c) → a ∉ A j) → putS S is cs = some S' →
    ∃ A', SR K p Fs Z H (setV σ is vs) S' e A' ∧ (∀ b, Own S' A' b → Own S A b ∨ b ∈ B) ∧ (∀ j, j ∉ is → (setV σ is vs)[j]? = σ[j]?)
  | [], [], vs, σ, S, S', A, B, h, hv, nd, hF, hZ, hd, hp => by
    cases hv
    cases hp
    exact ⟨A, h, fun b w => .inl w, fun j _ => rfl⟩
  | i :: is, c :: cs, vs, σ, S, S', A, B, h, hv, nd, hF, hZ, hd, hp => by
    unfold putS at hp
    split at hp
    · rename_i ho
      cases hk : keep c with
      | none => rw [hk] at hp; cases hp
      | some d =>
        simp only [hk, Option.bind_eq_bind, Option.bind_some] at hp
        cases vs with
        | nil => cases hv
        | cons v vs =>
          obtain ⟨B1, B2, rfl, h1, h2⟩ := vwl_split (t := c.t) (us := ts cs) hv
          obtain ⟨k1, k2, k3⟩ := keep_ok hk
          have q := List.nodup_append.mp nd
          have hs := SR.place h (d := d) (v := v) (B := B1) (by rw [k1]; exact h1) k2 (fun _ => q.1) (fun a m => hF a (List.mem_append_left _ m)) (fun a m => hZ a (List.mem_append_left _ m)) (fun a m => hd a (List.mem_append_left _ m)) i
          obtain ⟨A', r1, r2, r3⟩ := SR.puts (is := is) (cs := cs) hs h2 q.2.1 (fun a m => hF a (List.mem_append_right _ m)) (fun a m => hZ a (List.mem_append_right _ m)) (fun a m j c' hj => by
            rcases set_get hj with ⟨rfl, z⟩ | ⟨ne, z⟩
            · rw [putA_same]
              exact fun w => q.2.2 a w a m rfl
            · rw [putA_ne ne]
              exact hd a (List.mem_append_right _ m) j c' z) hp
          refine ⟨A', r1, fun b w => ?_, fun j hj => ?_⟩
          · rcases r2 b w with w | w
            · obtain ⟨j, t, hj, m⟩ := w
              rcases set_get hj with ⟨rfl, z⟩ | ⟨ne, z⟩
              · rw [putA_same] at m; exact .inr (List.mem_append_left _ m)
              · rw [putA_ne ne] at m; exact .inl ⟨j, t, z, m⟩
            · exact .inr (List.mem_append_right _ w)
          · have nj : i ≠ j := fun z => hj (by rw [z]; exact List.mem_cons_self)
            show (setV (σ.set i (some v)) is vs)[j]? = σ[j]?
            rw [r3 j fun m => hj (List.mem_cons_of_mem _ m), List.getElem?_set_ne nj]
    · cases hp
  | [], _ :: _, _, _, _, _, _, _, _, _, _, _, _, _, hp => by cases hp
  | _ :: _, [], _, _, _, _, _, _, _, _, _, _, _, _, hp => by cases hp
theorem putS_items : ∀ {is : List Nat} {cs : List Cell} {S S' : Slots}, putS S is cs = some S' → cs.all okItem = true ∧ is.length = cs.length
  | [], [], _, _, _ => ⟨rfl, rfl⟩
  | i :: is, c :: cs, S, S', hp => by
    unfold putS at hp
    split at hp
    · rename_i ho
      cases hk : keep c with
      | none => rw [hk] at hp; cases hp
      | some d =>
        simp only [hk, Option.bind_eq_bind, Option.bind_some] at hp
        have := putS_items hp
        exact ⟨by rw [List.all_cons, ho, this.1]; rfl, by rw [List.length_cons, List.length_cons, this.2]⟩
    · cases hp
  | [], _ :: _, _, _, hp => by cases hp
  | _ :: _, [], _, _, hp => by cases hp
def sParN (is : List Nat) (f : Ax) : Sx := fun S e => do
  let (cs, e) ← f S e
  let S ← putS S is cs
  some (.nx, S, e)
theorem rds_parN {ta : TA} {f : Ax} {is : List Nat} {t : TS} (hp : pn = true → 0 ∉ is) {Qt : Ends → L2.St → List V → Hp → Prop} (h : RdA K ta f) (ht : ∀ (D : Ends) (σ : L2.St) (H : Hp), ta σ H (Qt D σ) → t D σ H) (hq : ∀ (D : Ends) (σ : L2.St) (vs : List V) (H1 : Hp), vs.length = is.length → D.nx (setV σ is vs) H1 → Qt D σ vs H1) : RdS K pn t (sParN is f) := fun p Fs Z H σ S e A D fl S' e' hs hf k => by
  unfold sParN at hf
  cases h1 : f S e with
  | none => rw [h1] at hf; cases hf
  | some z =>
    obtain ⟨cs, e1⟩ := z
    cases h2 : putS S is cs with
    | none => simp [h1, h2] at hf
    | some S2 =>
      simp only [h1, h2, Option.bind_eq_bind, Option.bind_some, Option.some.injEq, Prod.mk.injEq] at hf
      obtain ⟨rfl, rfl, rfl⟩ := hf
      refine ht D σ H (h p Fs Z H σ S e A _ cs e1 hs h1 fun vs H1 B q => ?_)
      obtain ⟨i1, i2⟩ := putS_items h2
      obtain ⟨q1, q2, q3⟩ := EA.item hs q i1
      obtain ⟨A', r1, r2, r3⟩ := SR.puts (hs.behindA q) q.vw q1 (fun b m => (q3 b m).1) (fun b m => (q3 b m).2.1) (fun b m => (q3 b m).2.2) h2
      refine hq D σ vs H1 ?_ (k H1 _ A' r1 ⟨⟨fun b o y f _ => q.mv b o y f, fun b w => (r2 b w).imp (fun z => z) (q2 b)⟩, Th.of_mv q.mv q.src, fun z => r3 0 (hp z)⟩)
      rw [q.vw.length, i2]
      unfold ts
      rw [List.length_map]
theorem ds_par (i j : Nat) {x y : Str} {a b : Expr} {ta : TA} {f : Ax} {px py pt : Pos} {kt k2 pt2} (h : DA K X [a, b] ta f) (hp : pn = true → 0 ∉ [i, j] := by decide) (hij : i ≠ j := by decide) (hc : X.calm = true := by rfl) (hN : X.N.Nodup := by assumption) (hi : X.N[i]? = some x := by rfl) (hj : X.N[j]? = some y := by rfl)
    (hx : X.env.scope.names.lookup x = some .local := by rfl) (hy : X.env.scope.names.lookup y = some .local := by rfl)
    (hw : swappedStores [.Tuple [.Name x px, .Name y py] kt pt] (.Tuple [a, b] k2 pt2) X.env = pure (some [x, y]) := by rfl)
    (hs : swapsWithSole [.Tuple [.Name x px, .Name y py] kt pt] (.Tuple [a, b] k2 pt2) pos.line X.env = pure false := by rfl) :
    DS K X pn (.Assign [.Tuple [.Name x px, .Name y py] kt pt] (.Tuple [a, b] k2 pt2) pos) (tPar i j ta) (sParN [i, j] f) := by
  refine ⟨ps_par hc hN hi hj hij hx hy h.pa hw hs, rds_parN (t := tPar i j ta) hp h.rd (fun D σ H q => q) (fun D σ vs H1 hl q => ?_)⟩
  match vs, hl with
  | [v, w], _ => exact ⟨v, w, rfl, q⟩
theorem ds_par3 (i j l : Nat) {x y z : Str} {a b c : Expr} {ta : TA} {f : Ax} {px py pz pt : Pos} {kt k2 pt2} (h : DA K X [a, b, c] ta f) (hp : pn = true → 0 ∉ [i, j, l] := by decide) (hij : i ≠ j := by decide) (hil : i ≠ l := by decide) (hjl : j ≠ l := by decide) (hc : X.calm = true := by rfl) (hN : X.N.Nodup := by assumption)
    (hi : X.N[i]? = some x := by rfl) (hj : X.N[j]? = some y := by rfl) (hl : X.N[l]? = some z := by rfl)
    (hx : X.env.scope.names.lookup x = some .local := by rfl) (hy : X.env.scope.names.lookup y = some .local := by rfl) (hz : X.env.scope.names.lookup z = some .local := by rfl)
    (hw : swappedStores [.Tuple [.Name x px, .Name y py, .Name z pz] kt pt] (.Tuple [a, b, c] k2 pt2) X.env = pure (some [x, y, z]) := by rfl)
    (hs : swapsWithSole [.Tuple [.Name x px, .Name y py, .Name z pz] kt pt] (.Tuple [a, b, c] k2 pt2) pos.line X.env = pure false := by rfl) :
    DS K X pn (.Assign [.Tuple [.Name x px, .Name y py, .Name z pz] kt pt] (.Tuple [a, b, c] k2 pt2) pos) (tPar3 i j l ta) (sParN [i, j, l] f) := by
  refine ⟨ps_par3 hc hN hi hj hl hij hil hjl hx hy hz h.pa hw hs, rds_parN (t := tPar3 i j l ta) hp h.rd (fun D σ H q => q) (fun D σ vs H1 hl q => ?_)⟩
  match vs, hl with
  | [u, v, w], _ => exact ⟨u, v, w, rfl, q⟩
/-- x op= e, ints -/
def sAug (i : Nat) (g : Int → Int → Int) (f : Ex) : Sx := fun S e => match S[i]? with
  | some (some c) => do
    let (d, e) ← f S e
    match c.t, d.t with
    | .int a, .int b => some (.nx, S.set i (some ⟨.shr, .int (g a b)⟩), e)
    | _, _ => none
  | _ => none
theorem rds_aug (i : Nat) (hp : pn = true → i ≠ 0) {g : Int → Int → Int} {te : TE} {f : Ex} (h : Rd K te f) : RdS K pn (tAug i te (ipI g)) (sAug i g f) := fun p Fs Z H σ S e A D fl S' e' hs hf k => by
  unfold sAug at hf
  split at hf
  · rename_i c hi
    cases h1 : f S e with
    | none => rw [h1] at hf; cases hf
    | some z =>
      obtain ⟨d, e1⟩ := z
      rw [h1] at hf
      simp only [Option.bind_eq_bind, Option.bind_some] at hf
      split at hf
      · rename_i a b hc hd
        simp only [Option.some.injEq, Prod.mk.injEq] at hf
        obtain ⟨rfl, rfl, rfl⟩ := hf
        obtain ⟨_, v, v1, v2⟩ := hs.slot i c hi
        rw [hc] at v2
        generalize A i = B at v2
        cases v2
        refine ⟨_, v1, h p Fs Z H σ S e A _ _ e1 hs h1 fun w H1 B q => ?_⟩
        have hw := q.vw
        rw [hd] at hw
        cases hw
        have r := SR.put (pn := pn) hs (EQ.flat (K := K) (p := p) (Z := Z) (S := S) (A := A) (.int (g a b)) q.src q.mv) (d := ⟨.shr, .int (g a b)⟩) rfl i
        exact ⟨a, b, rfl, rfl, k H1 _ _ r.1 (r.2 hp)⟩
      · cases hf
  · cases hf
theorem ds_aug (i : Nat) {x : Str} {b : Expr} {te : TE} {f : Ex} {op : Operator} {g : Int → Int → Int} {pos' : Pos} (h : DX K X b te f) (ho : PIp X op (ipI g)) (hp : pn = true → i ≠ 0 := by decide) (hN : X.N.Nodup := by assumption) (hi : X.N[i]? = some x := by rfl) (hx : Loc X.env.scope x := by first | exact Or.inl rfl | exact Or.inr rfl) (hf : X.fn x = true ∨ X.env.scope.names.lookup x = some .local := by first | exact .inl rfl | exact .inr rfl | assumption) :
    DS K X pn (.AugAssign (.Name x pos') op b pos) (tAug i te (ipI g)) (sAug i g f) := ⟨ps_aug hN hi hx h.pe ho hf, rds_aug i hp h.rd⟩
end
/-! ### methods that give something back and change nothing -/
section
variable {K : PySem.W.Frag} {X : Cx} {pn : Bool} {pos : Pos} {o a : Expr} {es : List Expr} {to : TE} {ta : TA} {tn : String} {id : String} {r : V → List V → Hp → VK → Prop}
abbrev GM := T → List T → Option (Bool × T)
def OM (K : PySem.W.Frag) (r : V → List V → Hp → VK → Prop) (g : GM) : Prop := ∀ (p : Addr) (H : Hp) (x : V) (xs : List V) (tx : T) (ts : List T) (B C : List Addr) (n : Bool) (t : T) (Q : VK), Vw K p H x tx B → VwL K p H xs ts C → g tx ts = some (n, t) →
  (∀ v H' D, OQ K p H (B ++ C) n t v H' D → Q v H') → r x xs H Q
/-- t.m(..) of a tuple without a dict of its own -/
def tTM (r : V → List V → Hp → VK → Prop) (to : TE) (t : TA) : TE := fun σ H Q => to σ H fun x H1 => (∃ a xs, x = .ref a ∧ SqF H1 a xs) ∧ t σ H1 fun xs H2 => r x xs H2 Q
theorem pe_tm {name : Str} {apos cpos : Pos} (slot : Slot "tuple" name id) (hty : typeOf (.builtin id) = pure (.type "method_descriptor")) (hm : MtR X id r) (ho : PE X o to) (ha : PA X (a :: es) ta)
    (hbase : attributeBase o name X.env (eval o X.env) = eval o X.env := by rfl)
    (hfew : ((backTo cpos (starEach (a :: es) X.env)).all (fun x => !x.1) && (backToKw cpos (keywordEach [] X.env)).all (fun x => x.1.isSome)
      && decide ((a :: es).length + ([] : List Keyword).length + (if ([] : List Keyword).isEmpty then 0 else 1) < 30)) = true := by rfl)
    (hline : (apos.endLine == cpos.line) = true := by rfl) (hs : starEach (a :: es) X.env = (false, eval a X.env) :: starEach es X.env := by rfl) (hplain : (backTo cpos (starEach es X.env)).any (·.1) = false := by rfl) :
    PE X (.Call (.Attribute o name apos) (a :: es) [] cpos) (tTM r to ta) := by
  refine ⟨fun pins s σ H Q I h => ?_⟩
  refine wpAny_Call_method_late hbase hfew hline rfl (thn (ho.run pins s σ H _ I h) fun v s1 ⟨x, H1, I1, r1, ⟨l, xs, ex, f⟩, q1⟩ => ?_)
  subst ex
  obtain rfl : v = Value.ref l := r1
  obtain ⟨ob, f1, f2⟩ := f
  obtain ⟨g1, _, its, _, ob', g2, g3, _⟩ := I1.hok _ _ f1
  have e1 : ob = ob' := Option.some.inj (g1.symm.trans g2)
  refine ⟨"tuple", id, PySem.F.plainAttrs_tuple, slot, hty, ⟨ob', g2, g3⟩, fun a0 e0 => ?_, ?_⟩
  · cases e0
    exact ⟨ob, g1, f2⟩
  have hA := ha.run cpos pins s1 σ H1 _ I1 q1
  rw [hs] at hA ⊢
  refine Calls.callWith_builtin (by show (false || (backTo cpos (starEach es X.env)).any (·.1)) = false; rw [hplain] <;> rfl) (Calls.evalArgs_plain ?_)
  exact thn hA fun us s2 ⟨vs, H2, I2, r2, q2⟩ => hm pins s2 σ H2 (.ref l) vs (.ref l) us Q I2 rfl r2 q2
def xBm (g : GM) (fo : Ex) (fa : Ax) : Ex := fun S e => do
  let (c, e) ← fo S e
  let (cs, e) ← fa S e
  let (n, t) ← g c.t (ts cs)
  some (kOf n (jk c.k (jl cs)) t, e)
theorem rd_bmW {g : GM} {fo : Ex} {fa : Ax} {W : V → Hp → Prop} (hty : ∀ (p : Addr) (H : Hp) (x : V) (tx : T) (ts : List T) (B : List Addr) z, Vw K p H x tx B → g tx ts = some z → W x H) (ho : OM K r g) (h1 : Rd K to fo) (h2 : RdA K ta fa) : Rd K (fun σ H Q => to σ H fun x H1 => W x H1 ∧ ta σ H1 fun xs H2 => r x xs H2 Q) (xBm g fo fa) := fun p Fs Z H σ S e A Q c e' h hf k => by
  unfold xBm at hf
  cases e1 : fo S e with
  | none => rw [e1] at hf; cases hf
  | some z =>
    obtain ⟨x, f1⟩ := z
    rw [e1] at hf
    cases e2 : fa S f1 with
    | none => simp [e2] at hf
    | some z =>
      obtain ⟨ys, f2⟩ := z
      simp only [e2, Option.bind_eq_bind, Option.bind_some] at hf
      cases e3 : g x.t (ts ys) with
      | none => rw [e3] at hf; cases hf
      | some z =>
        obtain ⟨n, t⟩ := z
        simp only [e3, Option.bind_some, Option.some.injEq, Prod.mk.injEq] at hf
        obtain ⟨rfl, rfl⟩ := hf
        refine h1 p Fs Z H σ S e A _ x f1 h e1 fun v H1 B q1 => ?_
        have hs1 := h.behind q1
        refine ⟨hty p H1 v x.t (ts ys) B _ q1.vw e3, ?_⟩
        refine h2 p Fs Z H1 σ S f1 A _ ys f2 hs1 e2 fun us H2 C q2 => ?_
        have q1' := EQ.more h q1 q2.mv q2.src
        refine ho p H2 v us x.t (ts ys) B C n t Q q1'.vw q2.vw e3 fun w H3 D q3 => k w H3 D ?_
        refine EQ.op h (q1.mv.trans0 q2.mv) q2.src (fun a m => ?_) (fun nk a m i t0 hi => ?_) (fun a m => ?_) q3
        · rcases List.mem_append.mp m with m | m
          · exact q1.df a m
          · exact q2.df a m
        · obtain ⟨n1, n2⟩ := jk_vw nk
          rcases List.mem_append.mp m with m | m
          · exact EQ.apart h q1 n1 a m i t0 hi
          · exact EA.apart hs1 q2 n2 a m i t0 hi
        · rcases List.mem_append.mp m with m | m
          · exact q1.sub a m
          · exact q2.sub a m
/-! x.index(i), ints -/
def rIdxT (K : PySem.W.Frag) : V → List V → Hp → VK → Prop := fun x vs H Q => ∃ (a : Addr) (ns : List Int) (k : Int), x = V.ref a ∧ vs = [V.int k] ∧ SqF H a (ns.map V.int) ∧ k ∈ ns ∧ Q (.int (ns.idxOf k : Nat)) H
def rIdxL (K : PySem.W.Frag) : V → List V → Hp → VK → Prop := fun x vs H Q => ∃ (a : Addr) (ns : List Int) (k : Int), x = V.ref a ∧ vs = [V.int k] ∧ SqL K H a (ns.map V.int) ∧ k ∈ ns ∧ Q (.int (ns.idxOf k : Nat)) H
theorem mt_idxT : MtR X "tuple.index" (rIdxT X.K) := by
  intro pins s σ H x xs v us Q I rx rxs h
  obtain ⟨a, ns, k, rfl, rfl, hx, hk, q⟩ := h
  cases rx
  obtain ⟨u, rfl, t, rfl⟩ := rxs.one
  obtain ⟨its, rv, ht, _⟩ := I.tuple (SqF.t (K := X.K) hx)
  exact PySem.SeqAt.tuple_index_ints ht (intsAre_of rv) hk ⟨.int (ns.idxOf k : Nat), H, I.tok _, ⟨_, rfl⟩, q⟩
theorem mt_idxL : MtR X "list.index" (rIdxL X.K) := by
  intro pins s σ H x xs v us Q I rx rxs h
  obtain ⟨a, ns, k, rfl, rfl, hx, hk, q⟩ := h
  cases rx
  obtain ⟨u, rfl, t, rfl⟩ := rxs.one
  obtain ⟨its, rv, hl, hz⟩ := I.list hx
  exact PySem.SeqAt.list_index_ints hl.isList (intsAre_of rv) (by rw [List.length_map] at hz; exact hz) hk ⟨.int (ns.idxOf k : Nat), H, I.tok _, ⟨_, rfl⟩, q⟩
def gIdx : GM
  | .tup us, [.int k] => (us.mapM T.int?).bind fun ns => if k ∈ ns then some (true, .int (ns.idxOf k : Nat)) else none
  | .lst us, [.int k] => (us.mapM T.int?).bind fun ns => if k ∈ ns then some (true, .int (ns.idxOf k : Nat)) else none
  | _, _ => none
def gIdxT : GM
  | .tup us, xs => gIdx (.tup us) xs
  | _, _ => none
def gIdxL : GM
  | .lst us, xs => gIdx (.lst us) xs
  | _, _ => none
theorem om_idxT : OM K (rIdxT K) gIdxT := fun p H x xs tx ts B C n t Q hx hv hg k => by
  cases tx with
  | tup us =>
    simp only [gIdxT] at hg
    unfold gIdx at hg
    split at hg
    · rename_i us' j e
      cases e
      rw [Option.bind_eq_some_iff] at hg
      obtain ⟨ns, e1, hg⟩ := hg
      split at hg
      · rename_i hk
        cases hg
        rw [mapM_dec int?_dec e1] at hx
        obtain ⟨a, rfl, hT⟩ := vw_tp hx
        rw [vwl_ints1 hv]
        exact ⟨a, ns, j, rfl, rfl, hT, hk, k _ _ _ (OQ.flat0 (.int _))⟩
      · cases hg
    · rename_i e; cases e
    · cases hg
  | _ => simp only [gIdxT, reduceCtorEq] at hg
theorem om_idxL : OM K (rIdxL K) gIdxL := fun p H x xs tx ts B C n t Q hx hv hg k => by
  cases tx with
  | lst us =>
    simp only [gIdxL] at hg
    unfold gIdx at hg
    split at hg
    · rename_i e; cases e
    · rename_i us' j e
      cases e
      rw [Option.bind_eq_some_iff] at hg
      obtain ⟨ns, e1, hg⟩ := hg
      split at hg
      · rename_i hk
        cases hg
        rw [mapM_dec int?_dec e1] at hx
        cases hx with
        | lst h1 h2 =>
          rw [vwl_ints h2] at h1
          rw [vwl_ints1 hv]
          exact ⟨_, ns, j, rfl, rfl, SqL.of h1, hk, k _ _ _ (OQ.flat0 (.int _))⟩
      · cases hg
    · cases hg
  | _ => simp only [gIdxL, reduceCtorEq] at hg
theorem pe_or {x : Expr} {t u : TE} (h1 : PE X x t) (h2 : PE X x u) : PE X x (fun σ H Q => t σ H Q ∨ u σ H Q) := ⟨fun pins s σ H Q I h => h.elim (h1.run pins s σ H Q I) (h2.run pins s σ H Q I)⟩
theorem tyV_lst {p : Addr} {H : Hp} {x : V} {us : List T} {B : List Addr} (h : Vw K p H x (.lst us) B) : tyV K "list" x H := by
  cases h with
  | lst h1 h2 => exact .inl ⟨rfl, _, SqL.of h1⟩
/-- x.index(i) -/
def tIdx (K : PySem.W.Frag) (to : TE) (t : TA) : TE := fun σ H Q => tTM (rIdxT K) to t σ H Q ∨ tBM K "list" (rIdxL K) to t σ H Q
theorem rd_idx {fo : Ex} {fa : Ax} (h1 : Rd K to fo) (h2 : RdA K ta fa) : Rd K (tIdx K to ta) (xBm gIdx fo fa) := fun p Fs Z H σ S e A Q c e' hs hf k => by
  have hf0 := hf
  unfold xBm at hf
  cases e1 : fo S e with
  | none => rw [e1] at hf; cases hf
  | some z =>
    obtain ⟨x, f1⟩ := z
    rw [e1] at hf
    cases e2 : fa S f1 with
    | none => simp [e2] at hf
    | some z =>
      obtain ⟨ys, f2⟩ := z
      simp only [e2, Option.bind_eq_bind, Option.bind_some] at hf
      cases hx : x.t with
      | tup us =>
        refine .inl (rd_bmW (g := gIdxT) (W := fun x H1 => ∃ a xs, x = .ref a ∧ SqF H1 a xs) (fun p H x tx ts B z hv hg => ?_) om_idxT h1 h2 p Fs Z H σ S e A Q c e' hs ?_ k)
        · cases tx with
          | tup us =>
            cases hv with
            | tup q1 q2 => exact ⟨_, _, rfl, q1⟩
          | _ => simp only [gIdxT, reduceCtorEq] at hg
        · unfold xBm
          simp only [e1, e2, Option.bind_eq_bind, Option.bind_some]
          rw [hx] at hf ⊢
          exact hf
      | lst us =>
        refine .inr (rd_bmW (g := gIdxL) (W := fun x H1 => tyV K "list" x H1) (fun p H x tx ts B z hv hg => ?_) om_idxL h1 h2 p Fs Z H σ S e A Q c e' hs ?_ k)
        · cases tx with
          | lst us => exact tyV_lst hv
          | _ => simp only [gIdxL, reduceCtorEq] at hg
        · unfold xBm
          simp only [e1, e2, Option.bind_eq_bind, Option.bind_some]
          rw [hx] at hf ⊢
          exact hf
      | _ => rw [hx] at hf; simp only [gIdx, reduceCtorEq, Option.bind_none] at hf
theorem dx_idx {fo : Ex} {fa : Ax} {apos cpos : Pos} (h1 : DX K X o to fo) (h2 : DA K X (a :: es) ta fa) (hK : X.K = K := by rfl)
    (hbase : attributeBase o "index" X.env (eval o X.env) = eval o X.env := by rfl)
    (hfew : ((backTo cpos (starEach (a :: es) X.env)).all (fun x => !x.1) && (backToKw cpos (keywordEach [] X.env)).all (fun x => x.1.isSome)
      && decide ((a :: es).length + ([] : List Keyword).length + (if ([] : List Keyword).isEmpty then 0 else 1) < 30)) = true := by rfl)
    (hline : (apos.endLine == cpos.line) = true := by rfl) (hs : starEach (a :: es) X.env = (false, eval a X.env) :: starEach es X.env := by rfl) (hplain : (backTo cpos (starEach es X.env)).any (·.1) = false := by rfl) :
    DX K X (.Call (.Attribute o "index" apos) (a :: es) [] cpos) (tIdx K to ta) (xBm gIdx fo fa) := by
  subst hK
  exact ⟨pe_or (pe_tm PySem.F.slot_tuple_index PySem.F.type_tuple_index mt_idxT h1.pe h2.pa hbase hfew hline hs hplain) (pe_bm PySem.F.plainAttrs_list PySem.F.slot_list_index PySem.F.type_list_index mt_idxL h1.pe h2.pa hbase hfew hline hs hplain), rd_idx h1.rd h2.rd⟩
end
end DL

set_option Elab.async false
set_option linter.all false
set_option maxRecDepth 100000
set_option maxHeartbeats 1000000
namespace DL
open PySem PySem.Spec PyProof.Rows L2

/-! ### t[::-1] -/
section
variable {prog : Program} {w : World} {A : Around} {E : Value → Shared → Prop} {s : Shared}
theorem fm_congr {α β : Type} {f g : α → Option β} : ∀ {l : List α}, (∀ x ∈ l, f x = g x) → l.filterMap f = l.filterMap g
  | [], _ => rfl
  | x :: l, h => by rw [List.filterMap_cons, List.filterMap_cons, h x List.mem_cons_self, fm_congr fun y m => h y (List.mem_cons_of_mem _ m)]
theorem pick_back (xs : Array Value) : ((List.range xs.size).filterMap fun (m : Nat) => xs[(((xs.size : Int) - 1) + (m : Int) * -1).toNat]?) = xs.toList.reverse := by
  have e : (List.range xs.size).filterMap (fun (m : Nat) => xs[(((xs.size : Int) - 1) + (m : Int) * -1).toNat]?) = (List.range xs.size).filterMap (fun m => xs[xs.size - 1 - m]?) := by
    refine fm_congr fun m hm => ?_
    have := List.mem_range.mp hm
    have : (((xs.size : Int) - 1) + (m : Int) * -1).toNat = xs.size - 1 - m := by omega
    rw [this]
  rw [e]
  have e2 : (fun m => xs[xs.size - 1 - m]?) = (fun j => xs[j]?) ∘ fun m => xs.size - 1 - m := rfl
  rw [e2, ← List.filterMap_map, PySem.W.krv_range, List.filterMap_reverse, PySem.W.krv_all]
theorem sliceApplied_back {sl : Addr} {vs : Value} {n : Nat} {Q : Int × Int × Nat → Shared → Prop} (hs : s.heap.IsSliceOf sl .none .none vs) (pk : IsPart vs (some (-1)))
    (h : Q ((n : Int) - 1, -1, n) s) : wpAny (model prog w) A (Builtin.Slice.sliceApplied (.ref sl) (pure (n : Int))) Q E s := by
  obtain ⟨os, hos, hcs, hds⟩ := id hs
  unfold Builtin.Slice.sliceApplied Builtin.Slice.sliceFields
  refine wpAny_bind (wpAny_bind (wpAny_field hos hds (x := .none) rfl (wpAny_bind (wpAny_field hos hds (x := .none) rfl (wpAny_bind (wpAny_field hos hds (x := vs) rfl (wpAny_pure ?_)))))))
  refine wpAny_bind (HT.slicePart_ pk ?_)
  show wpAny _ _ (if ((-1 : Int) == 0) = true then _ else _) _ _ s
  rw [if_neg (by decide)]
  refine wpAny_bind (slicePart_none (wpAny_bind (slicePart_none (wpAny_bind (wpAny_pure ?_)))))
  have e1 : Builtin.Slice.sliceAdjust none none (-1) (n : Int) = ((n : Int) - 1, -1) := by
    unfold Builtin.Slice.sliceAdjust
    simp
  show wpAny _ _ (match Builtin.Slice.sliceAdjust none none (-1) (n : Int) with | (lo, hi) => pure (lo, (-1 : Int), Builtin.Slice.slicePlaces lo hi (-1))) _ _ s
  rw [e1]
  show wpAny _ _ (pure ((n : Int) - 1, (-1 : Int), Builtin.Slice.slicePlaces ((n : Int) - 1) (-1) (-1))) _ _ s
  have e2 : Builtin.Slice.slicePlaces ((n : Int) - 1) (-1) (-1) = n := by
    unfold Builtin.Slice.slicePlaces
    simp only [show ¬ ((-1 : Int) > 0) by omega, if_false, Int.neg_neg, Int.ediv_one]
    split <;> omega
  rw [e2]
  exact wpAny_pure h
theorem getItem_tuple_back {t sl : Addr} {items : Array Value} {vs : Value} {Q : Value → Shared → Prop} (ht : IsTup s.heap t items) (hs : s.heap.IsSliceOf sl .none .none vs) (pk : IsPart vs (some (-1)))
    (h : Q (.ref s.heap.objs.size) { s with heap := s.heap.push { cls := .type "tuple", data := .seq items.toList.reverse.toArray } })
    (hsz : items.size ≤ sizeLine) : wpAny (model prog w) A (getItem (.ref t) (.ref sl)) Q E s := by
  have htake : sizeOk (.seq items.toList.reverse.toArray) := by
    show items.toList.reverse.toArray.size ≤ sizeLine
    rw [List.size_toArray, List.length_reverse, Array.length_toList]
    exact hsz
  obtain ⟨os, hos, hcs, hds⟩ := id hs
  have hTs : s.TypeIs (.ref sl) "slice" := ⟨os, hos, hcs⟩
  unfold getItem
  try with_reducible refine wpAny_holding ?_
  first | refine wpAny_bind (wpAny_pure ?_) | skip
  refine wpAny_bind (wpAny_sequenceKey ht.typeIs (by decide) ?_)
  refine wpAny_bind (wpAny_callSpecial?_slot (name := Str.ofString "__getitem__") ht.typeIs PyProof.Rows.slot_tuple_getitem
    (wpAny_call_entry PyProof.Rows.slot_tuple_getitem ht.typeIs entry_tuple_getitem ?_ (args_tuple_getitem _ _)))
  show wpAny _ _ (Builtin.Tuple.tupleItemsOf (.ref t) >>= _) _ _ s
  refine wpAny_bind (tupleItemsOf_ ht ?_)
  refine wpAny_bind (wpAny_typeOf hTs ?_)
  rw [if_pos (by decide)]
  refine wpAny_bind (sliceApplied_back hs pk ?_)
  have hno : ¬ ((((items.size : Int) - 1) == 0 && (-1 : Int) == 1 && (items.size == items.size)) = true) := by
    intro q
    rw [Bool.and_eq_true, Bool.and_eq_true] at q
    exact absurd q.1.2 (by decide)
  show wpAny _ _ (if (((items.size : Int) - 1) == 0 && (-1 : Int) == 1 && (items.size == items.size)) = true then _ else _) _ _ s
  rw [if_neg hno, pick_back]
  first
    | exact wpAny_bind (m := Builtin.Tuple.tupleExact _) (wpAny_newObj_type (wpAny_pure ⟨_, rfl, wpAny_pure h⟩) htake)
    | exact wpAny_bind (m := Builtin.Tuple.tupleExact _) (wpAny_newObj_type (wpAny_bind (wpAny_pure (wpAny_pure ⟨_, rfl, wpAny_pure h⟩))) htake)
    | exact wpAny_bind (wpAny_bind (m := Builtin.Tuple.tupleExact _) (wpAny_newObj_type (wpAny_pure (wpAny_pure ⟨_, rfl, wpAny_pure h⟩)) htake))
    | exact wpAny_bind (wpAny_bind (m := Builtin.Tuple.tupleExact _) (wpAny_newObj_type (wpAny_pure ⟨_, rfl, wpAny_pure h⟩) htake))
end
def tRevT (K : PySem.W.Frag) (te : TE) : TE := fun σ H Q => te σ H fun x H1 => ∃ a xs, x = .ref a ∧ SqT K H1 a xs ∧ ∀ (p : Addr) (o : Obj), H1 p = none → o.dict = none → Q (.ref p) (upd H1 p (.frz o (.tup xs.reverse)))
section
variable {K : PySem.W.Frag} {X : Cx} {e : Expr} {te : TE} {k : Nat} {p1 p2 p3 pos : Pos}
theorem pe_revT (he : PE X e te) : PE X (.Subscript e (.Slice none none (some (.UnaryOp .USub (.Constant (.int 1) k p1) p2)) p3) pos) (tRevT X.K te) := by
  refine ⟨fun pins s σ H Q I h => ?_⟩
  refine Subscript_ (thn (he.run pins s σ H _ I h) fun v s1 ⟨x, H1, I1, r1, q1⟩ => ?_)
  obtain ⟨a, xs, ex, hx, q⟩ := q1
  subst ex
  obtain rfl : v = Value.ref a := r1
  have hst : PO X (some (.UnaryOp .USub (.Constant (.int 1) k p1) p2)) (tPart (tUn (rU fun i => .int (-i)) (tC (.int 1)))) := po_some (pe_un un_neg pe_int)
  refine wpAny_Slice (thn (po_none.run pins s1 σ H1 (fun o H2 => o = none ∧ H2 = H1) I1 ⟨rfl, rfl⟩) fun vl s2 ⟨l, H2, I2, pl, el, e2⟩ => ?_)
  subst el e2
  refine thn (po_none.run pins s2 σ H2 (fun o H3 => o = none ∧ H3 = H2) I2 ⟨rfl, rfl⟩) fun vu s3 ⟨u, H3, I3, pu, eu, e3⟩ => ?_
  subst eu e3
  refine thn (hst.run pins s3 σ H3 (fun o H4 => o = some (-1) ∧ H4 = H3) I3 ⟨1, rfl, -1, rfl, rfl, rfl⟩) fun vs s4 ⟨o, H4, I4, ps, eo, e4⟩ => ?_
  subst eo e4
  cases pl
  cases pu
  have I5 : Inv X pins σ H4 { s4 with heap := s4.heap.push { cls := .type "slice", data := .fields #[.none, .none, vs] } } := I4.kept (t' := s4.toks) fun b ob q => Heap.get?_push_of_some _ q
  obtain ⟨its, r, ht, hz⟩ := I5.tuple hx
  have hlen := r.length
  show wpAny (model X.prog X.w) X.A (subscriptTail e (.Slice none none (some (.UnaryOp .USub (.Constant (.int 1) k p1) p2)) p3) (.ref a) (.ref s4.heap.objs.size)) (EP X pins σ Q) X.xe { s4 with heap := s4.heap.push { cls := .type "slice", data := .fields #[.none, .none, vs] } }
  refine tail_any (ops := [.ref a, .ref s4.heap.objs.size]) ht.typeIs (PyProof.Rows.slot_tuple_getitem.lookup) ?_ (by with_unfolding_all rfl)
  refine getItem_tuple_back ht (Heap.IsSliceOf.new _ .none .none vs) ps ?_ (by rw [List.size_toArray]; omega)
  have I6 := laid_frz (xs := xs.reverse) (us := its.reverse) (h' := (s4.heap.push { cls := .type "slice", data := .fields #[.none, .none, vs] }).push { cls := .type "tuple", data := .seq its.toArray.toList.reverse.toArray }) (t' := s4.toks) I5 (fun b o e => Heap.get?_push_of_some _ e) (Nat.le_refl _) (Heap.get?_push_size _ rfl) rfl rfl r.reverse (by rw [List.length_reverse]; exact hz)
  exact ⟨.ref _, _, I6, rfl, q _ _ (I5.hok.fresh (Nat.le_refl _)) rfl⟩
def tRev (K : PySem.W.Frag) (te : TE) : TE := fun σ H Q => tRevT K te σ H Q ∨ tRevL K te σ H Q
/-- x[::-1] -/
def xRev (f : Ex) : Ex := fun S e => do
  let (c, e) ← f S e
  match c.t with
  | .tup us => some (⟨.shr, .tup us.reverse⟩, e)
  | .lst us => if us.all T.flat then some (⟨.own, .lst us.reverse⟩, e) else none
  | _ => none
theorem VwL.revF {p : Addr} {H : Hp} : ∀ {vs : List V} {us : List T} {A : List Addr}, VwL K p H vs us A → A = [] → VwL K p H vs.reverse us.reverse []
  | _, _, _, .nil, _ => .nil
  | _, _, _, .cons h r, e => by
    obtain ⟨e1, e2⟩ := List.append_eq_nil_iff.mp e
    subst e1 e2
    rw [List.reverse_cons, List.reverse_cons]
    have := (VwL.revF r rfl).app (.cons h .nil)
    exact this
theorem rd_rev {f : Ex} (h : Rd K te f) : Rd K (tRev K te) (xRev f) := fun p Fs Z H σ S e A Q c e' hs hf k => by
  unfold xRev at hf
  cases h1 : f S e with
  | none => rw [h1] at hf; cases hf
  | some z =>
    obtain ⟨⟨kc, tc⟩, e1⟩ := z
    rw [h1] at hf
    simp only [Option.bind_eq_bind, Option.bind_some] at hf
    cases tc with
    | tup us =>
      simp only [Option.some.injEq, Prod.mk.injEq] at hf
      obtain ⟨rfl, rfl⟩ := hf
      refine .inl (h p Fs Z H σ S e A _ _ e1 hs h1 fun v H1 B q => ?_)
      have hv : Vw K p H1 v (.tup us) B := q.vw
      cases hv with
      | tup g1 g2 =>
        refine ⟨_, _, rfl, g1.t, fun l o hl ho => k _ _ [] (EQ.flat (.tup (SqF.of ho) ((g2.revF rfl).same (same_new hl))) (q.src.stay fun a u _ z => same_new hl a u z) (q.mv.trans0 fun b u z _ => same_new hl b u z))⟩
    | lst us =>
      simp only at hf
      split at hf
      · rename_i fl
        simp only [Option.some.injEq, Prod.mk.injEq] at hf
        obtain ⟨rfl, rfl⟩ := hf
        refine .inr (h p Fs Z H σ S e A _ _ e1 hs h1 fun v H1 B q => ?_)
        have hv : Vw K p H1 v (.lst us) B := q.vw
        cases hv with
        | lst g1 g2 =>
          have eA := g2.flat fl
          subst eA
          refine ⟨_, _, rfl, SqL.of g1, fun l hl => k _ _ [l] ?_⟩
          have hn : H l = none := q.mv.none_src q.src hl
          have lF : l ∉ Fs := fun z => by
            have mu := q.src.mut l z
            rw [hl] at mu
            exact mu
          refine ⟨.lst upd_same ((g2.revF rfl).same (same_new hl)), q.src.stay (fun a u _ z => same_new hl a u z), q.mv.trans0 (fun b u z _ => same_new hl b u z), fun a m => ?_, fun _ => ⟨by simp, fun a m => ?_⟩, (fun z => nomatch z), fun a m => ?_⟩
          · rw [List.mem_singleton.mp m]; exact lF
          · rw [List.mem_singleton.mp m]; exact hn
          · rw [List.mem_singleton.mp m]; exact hs.zn l hn
      · cases hf
    | _ => cases hf
theorem dx_rev {f : Ex} (h : DX K X e te f) (hK : X.K = K := by rfl) : DX K X (.Subscript e (.Slice none none (some (.UnaryOp .USub (.Constant (.int 1) k p1) p2)) p3) pos) (tRev K te) (xRev f) := by
  subst hK
  exact ⟨pe_or (pe_revT h.pe) (pe_revL h.pe), rd_rev h.rd⟩
end
end DL

set_option Elab.async false
set_option linter.all false
set_option maxRecDepth 100000
set_option maxHeartbeats 1000000
namespace DL
open PySem PySem.Spec PyProof.Rows L2

/-! ### methods of an own class -/
/-- what a method makes of its object and its flat arguments: the object behind it, the (flat) answer -/
abbrev GO := T → List T → Option (T × T)
def spM (K : PySem.W.Frag) (m : Nat) (g : GO) : Sp := fun vs H Q _ => ∃ (p : Addr) (v0 : V) (rest : List V) (t0 t1 t : T) (B0 : List Addr) (us : List T), vs = v0 :: rest ∧ Vw K p H v0 t0 B0 ∧ B0.Nodup ∧ VwL K p H rest us [] ∧ us.length = m ∧ g t0 us = some (t1, t) ∧ t.flat = true ∧
  ∀ v H' B1, Vw K p H' v0 t1 B1 → B1.Nodup → (∀ b ∈ B1, b ∈ B0 ∨ H b = none) → (∀ b o, H b = some o → b ∉ B0 → H' b = some o) → Th H H' → Vw K p H' v t [] → Q v H'
/-- a class and what of it is asked -/
structure OC (K : PySem.W.Frag) (C : Addr) : Prop where
  cls : Cls K C
structure FnM (P : Program) (w : World) (K : PySem.W.Frag) (mg : Str → Option Value) (base : Heap) (C : Addr) (k : Nat) (x : Str) (m : Nat) (g : GO) : Prop where
  ex : ∃ (f : Addr) (fd : FuncData) (ps : List Str), FnOk P w K mg base CX0 k f fd ps (spM K m g) ∧ Meth K C x f ∧ Binds K fd ps []
structure FnP (P : Program) (w : World) (K : PySem.W.Frag) (mg : Str → Option Value) (base : Heap) (C : Addr) (k : Nat) (x : Str) (m : Nat) (g : GN) : Prop where
  ex : ∃ (f : Addr) (fd : FuncData) (ps : List Str), FnOk P w K mg base CX0 k f fd ps (spN K m g) ∧ Meth K C x f ∧ Binds K fd ps []
def noF (x : Str) (ns : List Str) : Bool := ns.all fun n => !decide (n = x)
theorem noF_lookup {x : Str} : ∀ {fs : List (Str × V)}, noF x (fs.map (·.1)) = true → fs.lookup x = none
  | [], _ => rfl
  | (n, v) :: fs, h => by
    rw [noF, List.map_cons, List.all_cons, Bool.and_eq_true] at h
    have hb : (x == n) = false := beq_eq_false_iff_ne.mpr fun e => by simp [e] at h
    simp only [List.lookup, hb]
    exact noF_lookup h.2
section
variable {K : PySem.W.Frag} {X : Cx} {pn : Bool} {pos : Pos} {o a : Expr} {es : List Expr} {to : TE} {ta : TA} {C : Addr} {x : Str} {m : Nat}
/-- o.m(..), a method that changes nothing -/
def xPm (C : Addr) (x : Str) (m : Nat) (g : GN) (fo : Ex) (fa : Ax) : Ex := fun S e => (fo S e).bind fun (c, e) =>
  match c.t with
  | .obj C' ns us => if C' = C ∧ noF x ns = true then (fa S e).bind fun (cs, e) =>
      if (ts cs).length + 1 = m then (g (c.t :: ts cs)).map fun (n, t) => (kOf n (jk c.k (jl cs)) t, e) else none
    else none
  | _ => none
theorem rd_pm {g : GN} {fo : Ex} {fa : Ax} (h1 : Rd K to fo) (h2 : RdA K ta fa) : Rd K (tMeth C x (spN K m g) [] E0 to ta) (xPm C x m g fo fa) := fun p Fs Z H σ S e A Q c e' h hf k => by
  unfold xPm at hf
  cases e1 : fo S e with
  | none => rw [e1] at hf; cases hf
  | some z =>
    obtain ⟨⟨kc, tc⟩, f1⟩ := z
    rw [e1] at hf
    simp only [Option.bind_some] at hf
    cases tc with
    | obj C' ns us =>
      simp only at hf
      split at hf
      · rename_i hz
        obtain ⟨rfl, hz⟩ := hz
        cases e2 : fa S f1 with
        | none => simp [e2] at hf
        | some z =>
          obtain ⟨ys, f2⟩ := z
          simp only [e2, Option.bind_some] at hf
          split at hf
          · rename_i hm
            rw [Option.map_eq_some_iff] at hf
            obtain ⟨⟨n, t⟩, hg, e3⟩ := hf
            simp only [Prod.mk.injEq] at e3
            obtain ⟨rfl, rfl⟩ := e3
            refine h1 p Fs Z H σ S e A _ _ f1 h e1 fun v H1 B q1 => ?_
            have hs1 := h.behind q1
            have hv : Vw K p H1 v (.obj C' ns us) B := q1.vw
            obtain ⟨l, dx, fs, ev, el, en⟩ : ∃ l dx fs, v = .ref l ∧ H1 l = some (.ins C' dx fs) ∧ fs.map (·.1) = ns := by
              cases hv with
              | obj g1 g2 => exact ⟨_, _, _, rfl, g1, rfl⟩
            refine ⟨l, dx, fs, ev, el, noF_lookup (by rw [en]; exact hz), ?_⟩
            refine h2 p Fs Z H1 σ S f1 A _ ys f2 hs1 e2 fun ws H2 D q2 => ?_
            have q1' := EQ.more h q1 q2.mv q2.src
            refine ⟨p, T.obj C' ns us :: ts ys, B ++ D, n, t, by rw [List.append_nil]; exact .cons q1'.vw q2.vw, by rw [List.length_cons]; exact hm, hg, fun w H3 D' q3 => k w H3 D' ?_⟩
            refine EQ.op h (q1.mv.trans0 q2.mv) q2.src (fun a m => ?_) (fun nk a m i t0 hi => ?_) (fun a m => ?_) q3
            · rcases List.mem_append.mp m with m | m
              · exact q1.df a m
              · exact q2.df a m
            · obtain ⟨n1, n2⟩ := jk_vw nk
              rcases List.mem_append.mp m with m | m
              · exact EQ.apart h q1 n1 a m i t0 hi
              · exact EA.apart hs1 q2 n2 a m i t0 hi
            · rcases List.mem_append.mp m with m | m
              · exact q1.sub a m
              · exact q2.sub a m
          · cases hf
      · cases hf
    | _ => cases hf
theorem dx_pm {j k : Nat} {g : GN} {fo : Ex} {fa : Ax} {apos pos : Pos} {pl : Sem Bool} (F : FnP X.prog X.w K X.mg X.base C k x m g) (oc : Cls K C) (hr : Room j X.A) (h1 : DX K X o to fo) (h2 : DA K X (a :: es) ta fa) (hj : k ≤ j := by decide) (hK : X.K = K := by rfl)
    (hst : starEach (a :: es) X.env = (false, eval a X.env) :: starEach es X.env := by rfl) (hpl : (backTo pos (starEach es X.env)).any (·.1) = false := by rfl)
    (ht : eval (.Call (.Attribute o x apos) (a :: es) [] pos) X.env = (do
      let ov ← eval o X.env
      standAt apos.atName
      let (f, first) ← holding [ov] (getMethod ov x pl)
      callWith pos f first (backTo pos (starEach (a :: es) X.env)) (backToKw pos (keywordEach [] X.env))) := by rfl) :
    DX K X (.Call (.Attribute o x apos) (a :: es) [] pos) (tMeth C x (spN K m g) [] E0 to ta) (xPm C x m g fo fa) := by
  obtain ⟨f, fd, ps, F1, F2, F3⟩ := F.ex
  subst hK
  exact ⟨pe_meth (pl := pl) h1.pe oc F2 F1 (hr.mono hj) F3 .nil pass0 h2.pa hst hpl ht, rd_pm h1.rd h2.rd⟩
theorem dx_pm0 {j k : Nat} {g : GN} {fo : Ex} {apos pos : Pos} {pl : Sem Bool} (F : FnP X.prog X.w K X.mg X.base C k x m g) (oc : Cls K C) (hr : Room j X.A) (h1 : DX K X o to fo) (hj : k ≤ j := by decide) (hK : X.K = K := by rfl)
    (ht : eval (.Call (.Attribute o x apos) [] [] pos) X.env = (do
      let ov ← eval o X.env
      standAt apos.atName
      let (f, first) ← holding [ov] (getMethod ov x pl)
      callWith pos f first (backTo pos (starEach [] X.env)) (backToKw pos (keywordEach [] X.env))) := by rfl) :
    DX K X (.Call (.Attribute o x apos) [] [] pos) (tMeth C x (spN K m g) [] E0 to tNil) (xPm C x m g fo aNil) := by
  obtain ⟨f, fd, ps, F1, F2, F3⟩ := F.ex
  subst hK
  exact ⟨pe_meth0 (pl := pl) h1.pe oc F2 F1 (hr.mono hj) F3 .nil pass0 ht, rd_pm h1.rd rda_nil⟩

/-! a method that changes its object, as a statement -/
def sMm (i : Nat) (C : Addr) (x : Str) (m : Nat) (g : GO) (fa : Ax) : Sx := fun S e => do
  let (cs, e) ← fa S e
  match S[i]? with
  | some (some ⟨.own, .obj C' ns us⟩) => if C' = C ∧ noF x ns = true ∧ (ts cs).all T.flat = true ∧ (ts cs).length = m then (g (.obj C' ns us) (ts cs)).bind fun (t1, t) => if t.flat = true then some (.nx, S.set i (some ⟨.own, t1⟩), e) else none else none
  | _ => none
/-- an owned slot's things have changed and become others, by somebody who had them alone -/
theorem SR.turn {p : Addr} {Fs : List Addr} {Z : Addr → Prop} {H H' : Hp} {σ : L2.St} {S : Slots} {e : Option Src} {A : Nat → List Addr} {i : Nat} {t t' : T} {v : V} {B : List Addr} (h : SR K p Fs Z H σ S e A) (hi : S[i]? = some (some ⟨.own, t⟩)) (hσ : σ[i]? = some (some v)) (hv : Vw K p H' v t' B) (hn : B.Nodup)
    (hB : ∀ b ∈ B, b ∈ A i ∨ H b = none) (hk : ∀ b o, H b = some o → b ∉ A i → H' b = some o) (thr : Th H H') :
    SR K p Fs Z H' σ (S.set i (some ⟨.own, t'⟩)) e (putA A i B) ∧ Go Fs pn σ S A H σ (S.set i (some ⟨.own, t'⟩)) (putA A i B) H' := by
  have mA : ∀ b ∈ A i, MutK (H b) := h.mut hi
  have im : Im H H' := fun b u e1 n => hk b u e1 fun z => by
    have := mA b z
    rw [e1] at this
    exact n this
  have aF : ∀ b ∈ A i, b ∉ Fs := h.ds i _ hi
  have notin : ∀ b, H b = none → ∀ j c, S[j]? = some (some c) → b ∉ A j := fun b z j c hj m => by
    have := h.mut hj b m
    rw [z] at this
    exact this
  refine ⟨⟨by rw [List.length_set]; exact h.len, fun j c hj => ?_, fun j u hj => ?_, fun j l u c hj hl ne b m => ?_, h.src.stay fun b u m e1 => hk b u e1 fun z => aF b z m, fun j c hj b m => ?_, fun j c hj b m => ?_, fun b z => h.zn b (thr.none z)⟩, ⟨fun b u e1 f w => ?_, fun b w => ?_⟩, thr, fun _ => rfl⟩
  · rcases set_get hj with ⟨rfl, z⟩ | ⟨ne, z⟩
    · cases z
      rw [putA_same]
      exact ⟨(fun z => nomatch z), v, hσ, hv⟩
    · obtain ⟨k, u, h1, h2⟩ := h.slot j c z
      rw [putA_ne ne]
      exact ⟨k, u, h1, h2.stay im fun b u m e1 => hk b u e1 fun y => h.dj i j t c hi z (fun q => ne q.symm) b y m⟩
  · rcases set_get hj with ⟨rfl, z⟩ | ⟨ne, z⟩
    · rw [putA_same]; exact hn
    · rw [putA_ne ne]; exact h.nd j u z
  · rcases set_get hj with ⟨rfl, z⟩ | ⟨nj, z⟩
    · rw [putA_same] at m
      rcases set_get hl with ⟨rfl, y⟩ | ⟨nl, y⟩
      · exact absurd rfl ne
      · rw [putA_ne nl]
        rcases hB b m with w | w
        · exact h.dj j l t c hi y ne b w
        · exact notin b w l c y
    · rw [putA_ne nj] at m
      rcases set_get hl with ⟨rfl, y⟩ | ⟨nl, y⟩
      · rw [putA_same]
        intro q
        rcases hB b q with w | w
        · exact h.dj j l u ⟨.own, t⟩ z hi ne b m w
        · exact notin b w j _ z m
      · rw [putA_ne nl]
        exact h.dj j l u c z y ne b m
  · rcases set_get hj with ⟨rfl, z⟩ | ⟨ne, z⟩
    · rw [putA_same] at m
      rcases hB b m with w | w
      · exact aF b w
      · intro y
        obtain ⟨u, hu⟩ := h.src_there y
        rw [w] at hu; cases hu
    · rw [putA_ne ne] at m; exact h.ds j c z b m
  · rcases set_get hj with ⟨rfl, z⟩ | ⟨ne, z⟩
    · rw [putA_same] at m
      rcases hB b m with w | w
      · exact h.z j _ hi b w
      · exact h.zn b w
    · rw [putA_ne ne] at m; exact h.z j c z b m
  · exact hk b u e1 fun y => w ⟨i, t, hi, y⟩
  · obtain ⟨j, u, hj, m⟩ := w
    rcases set_get hj with ⟨rfl, z⟩ | ⟨ne, z⟩
    · rw [putA_same] at m
      rcases hB b m with y | y
      · exact .inl ⟨j, t, hi, y⟩
      · exact .inr y
    · rw [putA_ne ne] at m
      exact .inl ⟨j, u, z, m⟩
theorem EA.flat {p : Addr} {Fs : List Addr} {Z : Addr → Prop} {H H' : Hp} {S : Slots} {A : Nat → List Addr} {cs : List Cell} {e' : Option Src} {vs : List V} {B : List Addr} (q : EA K p Fs Z H S A cs e' vs H' B) (f : (ts cs).all T.flat = true) : B = [] := q.vw.flat f
theorem rds_mm (i : Nat) {g : GO} {fa : Ax} (h2 : RdA K ta fa) : RdS K pn (tDrop (tMeth C x (spM K m g) [] E0 (tVar i) ta)) (sMm i C x m g fa) := fun p Fs Z H σ S e A D fl S' e' hs hf k => by
  unfold sMm at hf
  cases e2 : fa S e with
  | none => rw [e2] at hf; cases hf
  | some z =>
    obtain ⟨ys, f2⟩ := z
    rw [e2] at hf
    simp only [Option.bind_eq_bind, Option.bind_some] at hf
    split at hf
    · rename_i C' ns us hi
      split at hf
      · rename_i hz
        obtain ⟨rfl, hz, hfl, hm⟩ := hz
        cases e3 : g (.obj C' ns us) (ts ys) with
        | none => rw [e3] at hf; cases hf
        | some z =>
          obtain ⟨t1, t⟩ := z
          simp only [e3, Option.bind_some] at hf
          split at hf
          · rename_i hft
            simp only [Option.some.injEq, Prod.mk.injEq] at hf
            obtain ⟨rfl, rfl, rfl⟩ := hf
            obtain ⟨v, v1, v2, v3⟩ := hs.at hi
            obtain ⟨l, dx, fs, ev, el, en⟩ : ∃ l dx fs, v = .ref l ∧ H l = some (.ins C' dx fs) ∧ fs.map (·.1) = ns := by
              generalize A i = B at v2
              cases v2 with
              | obj g1 g2 => exact ⟨_, _, _, rfl, g1, rfl⟩
            refine ⟨v, v1, l, dx, fs, ev, el, noF_lookup (by rw [en]; exact hz), ?_⟩
            refine h2 p Fs Z H σ S e A _ ys f2 hs e2 fun ws H1 C1 q => ?_
            have hs1 := hs.behindA q
            have ec := q.flat hfl
            subst ec
            obtain ⟨v', v1', v2', v3'⟩ := hs1.at hi
            have : v' = v := by rw [v1] at v1'; exact (Option.some.inj (Option.some.inj v1')).symm
            subst this
            refine ⟨p, v', ws ++ [], T.obj C' ns us, t1, t, A i, ts ys, by rw [List.append_nil], v2', v3', by rw [List.append_nil]; exact q.vw, hm, e3, hft, fun w H2 B1 r1 r2 r3 r4 r5 r6 => ?_⟩
            obtain ⟨s1, s2⟩ := SR.turn (pn := pn) hs1 hi v1' r1 r2 r3 r4 r5
            exact k H2 σ _ s1 ((Go.ex hs q.mv q.src).trans s2)
          · cases hf
      · cases hf
    · cases hf
theorem ds_mm (i : Nat) {j k : Nat} {g : GO} {fa : Ax} {y : Str} {p1 apos cpos : Pos} {pl : Sem Bool} (F : FnM X.prog X.w K X.mg X.base C k x m g) (oc : Cls K C) (hr : Room j X.A) (h2 : DA K X (a :: es) ta fa) (hj : k ≤ j := by decide) (hK : X.K = K := by rfl) (hN : X.N[i]? = some y := by rfl) (hv : Vis X.env.scope y := by first | exact Or.inl rfl | exact Or.inr (Or.inl rfl) | exact Or.inr (Or.inr rfl))
    (hd : (y == ("__debug__" : Str)) = false := by decide) (hcd : (y == ("__classdict__" : Str)) = false := by decide)
    (hst : starEach (a :: es) X.env = (false, eval a X.env) :: starEach es X.env := by rfl) (hpl : (backTo cpos (starEach es X.env)).any (·.1) = false := by rfl)
    (ht : eval (.Call (.Attribute (.Name y p1) x apos) (a :: es) [] cpos) X.env = (do
      let ov ← eval (.Name y p1) X.env
      standAt apos.atName
      let (f, first) ← holding [ov] (getMethod ov x pl)
      callWith cpos f first (backTo cpos (starEach (a :: es) X.env)) (backToKw cpos (keywordEach [] X.env))) := by rfl)
    (hs : swapsWith (.Call (.Attribute (.Name y p1) x apos) (a :: es) [] cpos) none pos.line X.env = pure false := by rfl) :
    DS K X pn (.Expr (.Call (.Attribute (.Name y p1) x apos) (a :: es) [] cpos) pos) (tDrop (tMeth C x (spM K m g) [] E0 (tVar i) ta)) (sMm i C x m g fa) := by
  obtain ⟨f, fd, ps, F1, F2, F3⟩ := F.ex
  subst hK
  exact ⟨ps_expr (pe_meth (pl := pl) (pe_var hN hv hd hcd) oc F2 F1 (hr.mono hj) F3 .nil pass0 h2.pa hst hpl ht) hs, rds_mm i h2.rd⟩
theorem ds_mm0 (i : Nat) {j k : Nat} {g : GO} {y : Str} {p1 apos cpos : Pos} {pl : Sem Bool} (F : FnM X.prog X.w K X.mg X.base C k x m g) (oc : Cls K C) (hr : Room j X.A) (hj : k ≤ j := by decide) (hK : X.K = K := by rfl) (hN : X.N[i]? = some y := by rfl) (hv : Vis X.env.scope y := by first | exact Or.inl rfl | exact Or.inr (Or.inl rfl) | exact Or.inr (Or.inr rfl))
    (hd : (y == ("__debug__" : Str)) = false := by decide) (hcd : (y == ("__classdict__" : Str)) = false := by decide)
    (ht : eval (.Call (.Attribute (.Name y p1) x apos) [] [] cpos) X.env = (do
      let ov ← eval (.Name y p1) X.env
      standAt apos.atName
      let (f, first) ← holding [ov] (getMethod ov x pl)
      callWith cpos f first (backTo cpos (starEach [] X.env)) (backToKw cpos (keywordEach [] X.env))) := by rfl)
    (hs : swapsWith (.Call (.Attribute (.Name y p1) x apos) [] [] cpos) none pos.line X.env = pure false := by rfl) :
    DS K X pn (.Expr (.Call (.Attribute (.Name y p1) x apos) [] [] cpos) pos) (tDrop (tMeth C x (spM K m g) [] E0 (tVar i) tNil)) (sMm i C x m g aNil) := by
  obtain ⟨f, fd, ps, F1, F2, F3⟩ := F.ex
  subst hK
  exact ⟨ps_expr (pe_meth0 (pl := pl) (pe_var hN hv hd hcd) oc F2 F1 (hr.mono hj) F3 .nil pass0 ht) hs, rds_mm i rda_nil⟩
end

/-! a method's body -/
def slotsM (N : List Str) (t0 : T) (us : List T) : Slots := some ⟨.own, t0⟩ :: (us.map (fun t => some ⟨.shr, t⟩) ++ List.replicate (N.length - (us.length + 1)) none)
/-- a method's body: the object behind it, a flat answer -/
def AnsM (b : Sx) (S : Slots) (t1 t : T) : Prop :=
  (∃ (c : Cell) (S' : Slots), b S none = some (.ret c, S', none) ∧ c.t = t ∧ t.flat = true ∧ S'[0]? = some (some ⟨.own, t1⟩)) ∨ ∃ S' : Slots, b S none = some (.nx, S', none) ∧ t = .non ∧ S'[0]? = some (some ⟨.own, t1⟩)
section
variable {P : Program} {w : World} {K : PySem.W.Frag} {mg : Str → Option Value} {base : Heap}
theorem start_SM {p : Addr} {H : Hp} {N : List Str} {v0 : V} {vs : List V} {t0 : T} {us : List T} {B0 : List Addr} (h0 : Vw K p H v0 t0 B0) (n0 : B0.Nodup) (h : VwL K p H vs us []) (hl : us.length + 1 ≤ N.length) :
    SR K p [] (fun a => a ∈ B0 ∨ H a = none) H (L2.start N (v0 :: vs)) (slotsM N t0 us) none (fun i => if i = 0 then B0 else []) := by
  have hvl := h.length
  have hstart : L2.start N (v0 :: vs) = some v0 :: (vs.map some ++ List.replicate (N.length - (us.length + 1)) none) := by
    unfold L2.start
    rw [List.map_cons, List.length_cons, hvl]
    rfl
  have rest : ∀ (i : Nat) (c : Cell), (slotsM N t0 us)[i + 1]? = some (some c) → ∃ t, us[i]? = some t ∧ c = ⟨.shr, t⟩ := fun i c e => by
    unfold slotsM at e
    rw [List.getElem?_cons_succ] at e
    by_cases hi : i < us.length
    · rw [List.getElem?_append_left (by rw [List.length_map]; exact hi), List.getElem?_map, List.getElem?_eq_getElem hi] at e
      simp only [Option.map_some, Option.some.injEq] at e
      exact ⟨us[i], List.getElem?_eq_getElem hi, e.symm⟩
    · rw [List.getElem?_append_right (by rw [List.length_map]; omega), List.getElem?_replicate] at e
      split at e <;> simp at e
  refine ⟨?_, fun i c hc => ?_, fun i t hc => ?_, fun i j t c hc hj ne a m => ?_, rfl, fun i c hc a m => List.not_mem_nil, fun i c hc a m => ?_, fun a z => .inr z⟩
  · rw [hstart]
    unfold slotsM
    simp [hvl]
  · cases i with
    | zero =>
      have e := Option.some.inj (Option.some.inj hc)
      subst e
      exact ⟨(fun z => nomatch z), v0, by rw [hstart]; rfl, h0⟩
    | succ i =>
      obtain ⟨t, e1, rfl⟩ := rest i c hc
      obtain ⟨v, B, g1, g2, g3⟩ := h.get e1
      have eB : B = [] := List.eq_nil_iff_forall_not_mem.mpr fun b m => absurd (g3 b m) List.not_mem_nil
      subst eB
      refine ⟨(fun z => nomatch z), v, ?_, g2⟩
      rw [hstart, List.getElem?_cons_succ]
      have hi : i < vs.length := (List.getElem?_eq_some_iff.mp g1).1
      rw [List.getElem?_append_left (by rw [List.length_map]; exact hi), List.getElem?_map, g1]
      rfl
  · cases i with
    | zero => exact n0
    | succ i =>
      obtain ⟨t', _, e⟩ := rest i _ hc
      cases e
  · cases i with
    | zero =>
      cases j with
      | zero => exact absurd rfl ne
      | succ j => exact List.not_mem_nil
    | succ i =>
      obtain ⟨t', _, e⟩ := rest i _ hc
      cases e
  · cases i with
    | zero => exact .inl m
    | succ i => exact absurd m List.not_mem_nil
theorem fn_meth {x qual : Str} {st : Stmt} {f : Addr} {fd : FuncData} {N ps : List Str} {k m : Nat} {g : GO} {b : Sx} (F : Fun K x qual st f fd) (S : FnScope N ps (defScope st)) (hm : ps.length = m + 1)
    (hden : ∀ (cdv : Value) (A : Around) (outer : List Env) (s : Shared) (H : Hp) (E : XK), Room k (A.deeper (envOfC qual (defScope st) s.heap.objs.size f cdv)) →
      ∃ t, DSs K (cxOf CX0 P w K mg base N qual (defScope st) f cdv A outer s H E).nox true (defBody st) t b)
    (hsem : ∀ t0 us t1 t, g t0 us = some (t1, t) → us.length = m → AnsM b (slotsM N t0 us) t1 t) : FnOk P w K mg base CX0 (k + 1) f fd ps (spM K m g) := by
  refine F.ok S (fun vs H Q E h => ?_) (fun cdv A outer s H vs Q E hr h => ?_)
  · obtain ⟨p, v0, rest, t0, t1, t, B0, us, rfl, _, _, h1, h2, _⟩ := h
    rw [List.length_cons, h1.length, h2, hm]
  · obtain ⟨p, v0, rest, t0, t1, t, B0, us, rfl, h0, n0, h1, h2, h3, hft, q⟩ := h
    obtain ⟨tb, den⟩ := hden cdv A outer s H E hr
    have hl : us.length + 1 ≤ N.length := by
      have := congrArg List.length S.pre
      rw [List.length_take] at this
      omega
    have sr := start_SM (N := N) h0 n0 h1 hl
    refine ⟨tb, den.ps, ?_⟩
    have ownB : ∀ b, Own (slotsM N t0 us) (fun i => if i = 0 then B0 else []) b → b ∈ B0 := fun b ⟨i, t, hi, m⟩ => by
      cases i with
      | zero => exact m
      | succ i => exact absurd m List.not_mem_nil
    have fin : ∀ {H' : Hp} {σ' : L2.St} {S' : Slots} {A' : Nat → List Addr} {v : V}, SR K p [] (fun a => a ∈ B0 ∨ H a = none) H' σ' S' none A' → Go [] true (L2.start N (v0 :: rest)) (slotsM N t0 us) (fun i => if i = 0 then B0 else []) H σ' S' A' H' → S'[0]? = some (some ⟨.own, t1⟩) → Vw K p H' v t [] → Q v H' := fun {H' σ' S' A' v} r gg h0' hv => by
      obtain ⟨w, w1, w2, w3⟩ := r.at h0'
      have e0 : σ'[0]? = some (some v0) := by
        rw [gg.pin rfl]
        rfl
      have : w = v0 := by rw [e0] at w1; exact (Option.some.inj (Option.some.inj w1)).symm
      subst this
      exact q v H' (A' 0) w2 w3 (fun b mb => (gg.mo.so b ⟨0, t1, h0', mb⟩).imp (ownB b) fun z => z) (fun b o e n => gg.mo.fr b o e List.not_mem_nil fun z => n (ownB b z)) gg.th hv
    rcases hsem t0 us t1 t h3 h2 with ⟨c, S', hb, ht, _, hs0⟩ | ⟨S', hb, ht, hs0⟩
    · refine den.rd p [] _ H (L2.start N (v0 :: rest)) _ none _ _ (.ret c) S' none sr hb fun H' σ' A' v B' r gg rv => ?_
      have hv := rv.vw
      rw [ht] at hv
      rw [hv.flat hft] at hv
      exact fin r gg hs0 hv
    · refine den.rd p [] _ H (L2.start N (v0 :: rest)) _ none _ _ .nx S' none sr hb fun H' σ' A' r gg => fin r gg hs0 (by rw [ht]; exact .non)
end

/-! ### C(..) -/
def xMk (C : Addr) (m : Nat) (g : GO) (fa : Ax) : Ex := fun S e => (fa S e).bind fun (cs, e) =>
  if (ts cs).all T.flat = true ∧ (ts cs).length = m then (g (.obj C [] []) (ts cs)).bind fun (t1, t) => match t with
    | .non => some (⟨.own, t1⟩, e)
    | _ => none
  else none
section
variable {K : PySem.W.Frag} {X : Cx} {pos : Pos} {a : Expr} {es : List Expr} {ta : TA} {C : Addr} {x : Str} {m : Nat}
theorem rd_mk {g : GO} {fa : Ax} (h2 : RdA K ta fa) : Rd K (tMake C (spM K m g) [] E0 ta) (xMk C m g fa) := fun p Fs Z H σ S e A Q c e' hs hf k => by
  unfold xMk at hf
  cases e2 : fa S e with
  | none => rw [e2] at hf; cases hf
  | some z =>
    obtain ⟨ys, f2⟩ := z
    rw [e2] at hf
    simp only [Option.bind_some] at hf
    split at hf
    · rename_i hz
      cases e3 : g (.obj C [] []) (ts ys) with
      | none => rw [e3] at hf; cases hf
      | some z =>
        obtain ⟨t1, t⟩ := z
        simp only [e3, Option.bind_some] at hf
        cases t with
        | non =>
          simp only [Option.some.injEq, Prod.mk.injEq] at hf
          obtain ⟨rfl, rfl⟩ := hf
          refine h2 p Fs Z H σ S e A _ ys f2 hs e2 fun ws H1 C1 q => ?_
          have ec := q.flat hz.1
          subst ec
          intro l dx hl hdx ne
          have sm : Same H1 (upd (upd H1 dx (.own l)) l (.ins C dx [])) := fun b u e0 => by
            rw [upd_ne (ne_of_none e0 hl), upd_ne (ne_of_none e0 hdx)]
            exact e0
          have hs1 := hs.behindA q
          have back : ∀ b, H1 b = none → H b = none := fun b z => q.mv.none_src q.src z
          have back2 : ∀ b, (upd (upd H1 dx (.own l)) l (.ins C dx [])) b = none → H1 b = none := fun b z => by
            cases y : H1 b with
            | none => rfl
            | some u => rw [sm b u y] at z; cases z
          have lF : l ∉ Fs := fun z => by
            have mu := q.src.mut l z
            rw [hl] at mu
            exact mu
          refine ⟨p, .ref l, ws ++ [], .obj C [] [], t1, .non, [l], ts ys, by rw [List.append_nil], ?_, by simp, by rw [List.append_nil]; exact q.vw.same sm, hz.2, e3, rfl, fun v H2 B1 r1 r2 r3 r4 r5 r6 => ⟨by cases r6; rfl, ?_⟩⟩
          · exact .obj (fs := []) upd_same .nil
          have keep : ∀ b o, H1 b = some o → H2 b = some o := fun b o e0 => r4 b o (sm b o e0) fun z => by
            rw [List.mem_singleton.mp z, hl] at e0
            cases e0
          have fresh : ∀ b ∈ B1, H1 b = none := fun b mb => by
            rcases r3 b mb with z | z
            · rw [List.mem_singleton.mp z]; exact hl
            · exact back2 b z
          refine k (.ref l) H2 B1 ⟨r1, q.src.stay fun b o _ e0 => keep b o e0, q.mv.trans0 fun b o e0 _ => keep b o e0, fun b mb z => ?_, fun _ => ⟨r2, fun b mb => back b (fresh b mb)⟩, (fun z => nomatch z), fun b mb => hs1.zn b (fresh b mb)⟩
          have mu := q.src.mut b z
          rw [fresh b mb] at mu
          exact mu
        | _ => simp only [reduceCtorEq] at hf
    · cases hf
structure FnI (P : Program) (w : World) (K : PySem.W.Frag) (mg : Str → Option Value) (base : Heap) (C : Addr) (k : Nat) (x : Str) (m : Nat) (g : GO) : Prop where
  ex : ∃ (f : Addr) (fd : FuncData) (ps : List Str), FnOk P w K mg base CX0 k f fd ps (spM K m g) ∧ Mk K C f ∧ Binds K fd ps [] ∧ mg x = some (.ref C)
theorem dx_mk {j k : Nat} {g : GO} {fa : Ax} {p : Pos} (F : FnI X.prog X.w K X.mg X.base C k x m g) (hr : Room j X.A) (h2 : DA K X (a :: es) ta fa) (hj : k + 1 ≤ j := by decide) (hK : X.K = K := by rfl) (hg : Gl X x := by rfl) (hdb : (x == ("__debug__" : Str)) = false := by decide)
    (he : starEach (a :: es) X.env = (false, eval a X.env) :: starEach es X.env := by rfl) (hpl : (backTo pos (starEach es X.env)).any (·.1) = false := by rfl) :
    DX K X (.Call (.Name x p) (a :: es) [] pos) (tMake C (spM K m g) [] E0 ta) (xMk C m g fa) := by
  obtain ⟨f, fd, ps, F1, F2, F3, F4⟩ := F.ex
  subst hK
  exact ⟨pe_make F2 F1 (hr.mono hj) hg F4 F3 .nil pass0 h2.pa hdb he hpl, rd_mk h2.rd⟩
end
end DL

set_option Elab.async false
set_option linter.all false
set_option maxRecDepth 100000
set_option maxHeartbeats 1000000
namespace DL
open PySem PySem.Spec PyProof.Rows L2

/-! ### dicts by int keys, flat values -/
def valT : List Key → List T → Key → Option T
  | k :: ks, t :: ts, j => if k = j then some t else valT ks ts j
  | _, _, _ => none
def putDK (j : Key) : List Key → List Key
  | [] => [j]
  | k :: ks => if k = j then k :: ks else k :: putDK j ks
def putDT (j : Key) (u : T) : List Key → List T → List T
  | k :: ks, t :: ts => if k = j then u :: ts else t :: putDT j u ks ts
  | _, _ => [u]
section
variable {K : PySem.W.Frag} {p : Addr} {H : Hp}
theorem val_at {j : Key} : ∀ {kvs : List (Key × V)} {ts : List T} {A : List Addr}, VwL K p H (kvs.map (·.2)) ts A → match valT (kvs.map (·.1)) ts j with
    | some t => ∃ v B, valV kvs j = some v ∧ Vw K p H v t B ∧ ∀ a ∈ B, a ∈ A
    | none => valV kvs j = none
  | [], _, _, h => by cases h; exact valV_nil
  | (k, v) :: kvs, _, _, h => by
    cases h with
    | @cons _ _ t ts A1 A2 h1 h2 =>
      show match (if k = j then some t else valT (kvs.map (·.1)) ts j) with
        | some t => ∃ w B, valV ((k, v) :: kvs) j = some w ∧ Vw K p H w t B ∧ ∀ a ∈ B, a ∈ A1 ++ A2
        | none => valV ((k, v) :: kvs) j = none
      by_cases z : k = j
      · rw [if_pos z]
        exact ⟨v, _, valV_pos (p := (k, v)) z, h1, fun a m => List.mem_append_left _ m⟩
      · rw [if_neg z]
        have ih := val_at (j := j) h2
        rw [valV_neg (p := (k, v)) z]
        cases q : valT (kvs.map (·.1)) ts j with
        | none => rw [q] at ih; exact ih
        | some t' =>
          rw [q] at ih
          obtain ⟨w, B, r1, r2, r3⟩ := ih
          exact ⟨w, B, r1, r2, fun a m => List.mem_append_right _ (r3 a m)⟩
theorem any_mem {j : Key} (kvs : List (Key × V)) : (kvs.any fun kv => decide (kv.1 = j)) = true ↔ j ∈ kvs.map (·.1) := by
  rw [List.any_eq_true, List.mem_map]
  constructor
  · rintro ⟨kv, h1, h2⟩; exact ⟨kv, h1, of_decide_eq_true h2⟩
  · rintro ⟨kv, h1, h2⟩; exact ⟨kv, h1, decide_eq_true h2⟩
theorem map_off {j : Key} {v : V} : ∀ {kvs : List (Key × V)}, j ∉ kvs.map (·.1) → (kvs.map fun kv => if kv.1 = j then (kv.1, v) else kv) = kvs
  | [], _ => rfl
  | (k, w) :: kvs, h => by
    rw [List.map_cons, List.mem_cons] at h
    rw [List.map_cons, if_neg (fun z => h (.inl z.symm)), map_off fun m => h (.inr m)]
theorem putK_cons {j k : Key} {v w : V} {kvs : List (Key × V)} (nd : ((k, w) :: kvs |>.map (·.1)).Nodup) : L2.putK ((k, w) :: kvs) j v = if k = j then (k, v) :: kvs else (k, w) :: L2.putK kvs j v := by
  unfold L2.putK
  rw [List.map_cons] at nd
  have nd' := List.nodup_cons.mp nd
  by_cases z : k = j
  · subst z
    rw [if_pos ((any_mem _).mpr (by simp)), if_pos rfl, List.map_cons, if_pos rfl, map_off nd'.1]
  · rw [if_neg z]
    by_cases m : j ∈ kvs.map (·.1)
    · rw [if_pos ((any_mem _).mpr (by rw [List.map_cons]; exact List.mem_cons_of_mem _ m)), if_pos ((any_mem _).mpr m), List.map_cons, if_neg z]
    · have n1 : ¬ ((((k, w) :: kvs).any fun kv => decide (kv.1 = j)) = true) := fun q => by
        have := (any_mem _).mp q
        rw [List.map_cons, List.mem_cons] at this
        exact this.elim (fun e => z e.symm) m
      rw [if_neg n1, if_neg (fun q => m ((any_mem _).mp q)), List.cons_append]
theorem val_put {j : Key} {v : V} {u : T} (hv : Vw K p H v u []) : ∀ {kvs : List (Key × V)} {ts : List T} {A : List Addr}, VwL K p H (kvs.map (·.2)) ts A → A = [] → (kvs.map (·.1)).Nodup → VwL K p H ((L2.putK kvs j v).map (·.2)) (putDT j u (kvs.map (·.1)) ts) [] ∧ (L2.putK kvs j v).map (·.1) = putDK j (kvs.map (·.1)) ∧ (putDK j (kvs.map (·.1))).Nodup ∧ ∀ x, x ∈ putDK j (kvs.map (·.1)) → x = j ∨ x ∈ kvs.map (·.1)
  | [], _, _, h, _, _ => by
    cases h
    exact ⟨.cons hv .nil, rfl, by simp [putDK], fun x m => .inl (List.mem_singleton.mp m)⟩
  | (k, w) :: kvs, _, _, h, e, nd => by
    cases h with
    | @cons _ _ t ts A1 A2 h1 h2 =>
      obtain ⟨e1, e2⟩ := List.append_eq_nil_iff.mp e
      subst e1 e2
      have nd' := List.nodup_cons.mp (show (k :: kvs.map (·.1)).Nodup from nd)
      rw [putK_cons nd]
      show VwL K p H _ (if k = j then u :: ts else t :: putDT j u (kvs.map (·.1)) ts) [] ∧ _ = (if k = j then k :: kvs.map (·.1) else k :: putDK j (kvs.map (·.1))) ∧ (if k = j then k :: kvs.map (·.1) else k :: putDK j (kvs.map (·.1))).Nodup ∧ ∀ x, x ∈ (if k = j then k :: kvs.map (·.1) else k :: putDK j (kvs.map (·.1))) → x = j ∨ x ∈ k :: kvs.map (·.1)
      by_cases z : k = j
      · rw [if_pos z, if_pos z, if_pos z]
        exact ⟨.cons hv h2, rfl, nd, fun x m => .inr m⟩
      · rw [if_neg z, if_neg z, if_neg z]
        obtain ⟨r1, r2, r3, r4⟩ := val_put hv h2 rfl nd'.2
        refine ⟨.cons h1 r1, by rw [List.map_cons, r2], List.nodup_cons.mpr ⟨fun m => ?_, r3⟩, fun x m => ?_⟩
        · rcases r4 k m with y | y
          · exact z y
          · exact nd'.1 y
        · rcases List.mem_cons.mp m with y | y
          · exact .inr (by rw [y]; exact List.mem_cons_self)
          · exact (r4 x y).imp (fun z => z) fun z => List.mem_cons_of_mem _ z
theorem vw_dct {v : V} {ks : List Key} {ts : List T} {A : List Addr} (h : Vw K p H v (.dct ks ts) A) : ∃ a kvs B, v = .ref a ∧ H a = some (.dK kvs) ∧ kvs.map (·.1) = ks ∧ (kvs.map (·.1)).Nodup ∧ VwL K p H (kvs.map (·.2)) ts B ∧ A = a :: B := by
  cases h with
  | dct h1 h2 h3 => exact ⟨_, _, _, rfl, h1, rfl, h2, h3, rfl⟩
end
section
variable {K : PySem.W.Frag} {X : Cx} {pn : Bool} {pos : Pos} {a b : Expr} {ta tb : TE}
theorem dx_dnew : DX K X (.Dict [] [] pos) tDNewK (fun _ e => some (⟨.own, .dct [] []⟩, e)) := ⟨pe_dnewK, fun p Fs Z H σ S e A Q c e' hs hf k l hl => by
  simp only [Option.some.injEq, Prod.mk.injEq] at hf
  obtain ⟨rfl, rfl⟩ := hf
  have lF : l ∉ Fs := fun z => by
    have mu := hs.src.mut l z
    rw [hl] at mu
    exact mu
  refine k _ _ [l] ⟨.dct (kvs := []) upd_same List.nodup_nil .nil, hs.src.stay fun a u _ z => same_new hl a u z, fun b u z _ => same_new hl b u z, fun a m => ?_, fun _ => ⟨by simp, fun a m => ?_⟩, (fun z => nomatch z), fun a m => ?_⟩
  · rw [List.mem_singleton.mp m]; exact lF
  · rw [List.mem_singleton.mp m]; exact hl
  · rw [List.mem_singleton.mp m]; exact hs.zn l hl⟩
/-! k in d -/
def rDIn (neg : Bool) : R2 := fun y x H Q => ∃ a o, x = .ref a ∧ DGet H a y o ∧ Q (.bl (if neg then !o.isSome else o.isSome)) H
theorem op_dIn (hu : X.A.units + 1 < cLine) : OpR X (compareOp .In) (rDIn false) := by
  intro pins s σ H x y v u Q I rx ry h
  obtain ⟨a, o, rfl, g, q⟩ := h
  cases (show u = Value.ref a from ry)
  exact d_in hu I g rx fun s3 I3 => ⟨.bl o.isSome, H, I3, rfl, q⟩
theorem op_dNotIn (hu : X.A.units + 1 < cLine) : OpR X (compareOp .NotIn) (rDIn true) := by
  intro pins s σ H x y v u Q I rx ry h
  obtain ⟨a, o, rfl, g, q⟩ := h
  cases (show u = Value.ref a from ry)
  exact d_notIn hu I g rx fun s3 I3 => ⟨.bl (!o.isSome), H, I3, rfl, q⟩
def gDIn (neg : Bool) : G2
  | .int i, .dct ks ts => some (true, .bl (if neg then !(valT ks ts (.inl i)).isSome else (valT ks ts (.inl i)).isSome))
  | _, _ => none
theorem o_dIn {neg : Bool} : O2 K (rDIn neg) (gDIn neg) := fun p H x y tx ty B D n t Q hx hy hg k => by
  cases tx with
  | int i =>
    cases hx
    cases ty with
    | dct ks ts =>
      simp only [gDIn, Option.some.injEq, Prod.mk.injEq] at hg
      obtain ⟨rfl, rfl⟩ := hg
      obtain ⟨a, kvs, B', rfl, h1, rfl, h3, h4, _⟩ := vw_dct hy
      refine ⟨a, valV kvs (.inl i), rfl, DGet.k (k := .inl i) h1, ?_⟩
      have q := val_at (j := .inl i) h4
      have e : (valV kvs (.inl i)).isSome = (valT (kvs.map (·.1)) ts (.inl i)).isSome := by
        cases z : valT (kvs.map (·.1)) ts (.inl i) with
        | none => rw [z] at q; rw [show valV kvs (.inl i) = none from q]; rfl
        | some t => rw [z] at q; obtain ⟨v, _, q1, _⟩ := q; rw [q1]; rfl
      rw [e]
      exact k _ _ _ (OQ.flat0 (.bl _))
    | _ => simp only [gDIn, reduceCtorEq] at hg
  | _ => simp only [gDIn, reduceCtorEq] at hg
def rInX (K : PySem.W.Frag) (neg : Bool) : R2 := fun x y H Q => rIn K neg x y H Q ∨ rDIn neg x y H Q
def gInX (neg : Bool) : G2 := fun x y => (gIn neg x y).orElse fun _ => gDIn neg x y
theorem opr_in (hu : X.A.units + 1 < cLine) : OpR X (compareOp .In) (rInX X.K false) := op_in_seq.or (op_dIn hu)
theorem opr_notIn (hu : X.A.units + 1 < cLine) : OpR X (compareOp .NotIn) (rInX X.K true) := op_notIn_seq.or (op_dNotIn hu)
theorem o_inX {neg : Bool} : O2 K (rInX K neg) (gInX neg) := o2_or o_in o_dIn
theorem room_one {j : Nat} {A : Around} (h : Room j A) : A.units + 1 < cLine := by have := h.un; omega
/-! d[k] -/
def rDGet : R2 := fun x y H Q => ∃ a v, x = .ref a ∧ DGet H a y (some v) ∧ Q v H
def gDGet : G2
  | .dct ks ts, .int i => (valT ks ts (.inl i)).map fun t => (false, t)
  | _, _ => none
theorem o_dGet : O2 K rDGet gDGet := fun p H x y tx ty B D n t Q hx hy hg k => by
  cases tx with
  | dct ks ts =>
    cases ty with
    | int i =>
      cases hy
      simp only [gDGet, Option.map_eq_some_iff] at hg
      obtain ⟨u, e, e1⟩ := hg
      simp only [Prod.mk.injEq] at e1
      obtain ⟨rfl, rfl⟩ := e1
      obtain ⟨a, kvs, B', rfl, h1, rfl, h3, h4, rfl⟩ := vw_dct hx
      have q := val_at (j := .inl i) h4
      rw [e] at q
      obtain ⟨v, B2, q1, q2, q3⟩ := q
      have g : DGet H a (.int i) (some v) := by rw [← q1]; exact DGet.k (k := .inl i) h1
      exact ⟨a, v, rfl, g, k _ _ _ (OQ.part q2 fun b m => List.mem_append_left _ (List.mem_cons_of_mem _ (q3 b m)))⟩
    | _ => simp only [gDGet, reduceCtorEq] at hg
  | _ => simp only [gDGet, reduceCtorEq] at hg
def gSubX : G2
  | .dct ks ts, y => gDGet (.dct ks ts) y
  | x, y => gIx x y
def tSubX (K : PySem.W.Frag) (ta tb : TE) : TE := fun σ H Q => tOp (rIx K) ta tb σ H Q ∨ tOp rDGet ta tb σ H Q
theorem rd_sub {fa fb : Ex} (ha : Rd K ta fa) (hb : Rd K tb fb) : Rd K (tSubX K ta tb) (xBin gSubX fa fb) := fun p Fs Z H σ S e A Q c e' hs hf k => by
  have hf0 := hf
  unfold xBin at hf0
  cases e1 : fa S e with
  | none => rw [e1] at hf0; cases hf0
  | some z =>
    obtain ⟨x, f1⟩ := z
    cases hx : x.t with
    | dct ks us =>
      refine .inr (rd_bin o_dGet ha hb p Fs Z H σ S e A Q c e' hs ?_ k)
      rw [← hf]
      unfold xBin
      simp only [e1, Option.bind_eq_bind, Option.bind_some, hx, gSubX]
    | _ =>
      refine .inl (rd_bin o_ix ha hb p Fs Z H σ S e A Q c e' hs ?_ k)
      rw [← hf]
      unfold xBin
      simp only [e1, Option.bind_eq_bind, Option.bind_some, hx, gSubX]
theorem dx_sub {j : Nat} {fa fb : Ex} (hr : Room j X.A) (ha : DX K X a ta fa) (hb : DX K X b tb fb) (hK : X.K = K := by rfl) (hs : PlainIx b := by intro _ _; rfl) (hs2 : NoSl b := by intro _ _; rfl) : DX K X (.Subscript a b pos) (tSubX K ta tb) (xBin gSubX fa fb) := by
  subst hK
  exact ⟨pe_or (pe_ix ix_seq ha.pe hb.pe hs) (pe_dget (room_one hr) ha.pe hb.pe hs2), rd_sub ha.rd hb.rd⟩
/-! d[k] = v -/
def gIxD (i : Nat) (fi : Ex) : Gx := fun c S e => do
  let (d, e) ← fi S e
  match S[i]?, d.t with
  | some (some ⟨.own, .dct ks us⟩), .int k => if us.all T.flat && c.t.flat && decide (us.length < sizeLine) then some (S.set i (some ⟨.own, .dct (putDK (.inl k) ks) (putDT (.inl k) c.t ks us)⟩), e) else none
  | _, _ => none
theorem rdg_ixD (i : Nat) {ti : TE} {fi : Ex} (h : Rd K ti fi) : RdG K pn false [i] (L2.gSub (tVar i) ti rSetD) (gIxD i fi) := fun p Fs Z H σ S e A c e1 v H1 B Q S' e' hs eq hg k => by
  unfold gIxD at hg
  cases h1 : fi S e1 with
  | none => rw [h1] at hg; cases hg
  | some z =>
    obtain ⟨⟨kd, td⟩, e2⟩ := z
    rw [h1] at hg
    simp only [Option.bind_eq_bind, Option.bind_some] at hg
    split at hg
    · rename_i ks us n hi
      split at hg
      · rename_i hz
        rw [Bool.and_eq_true, Bool.and_eq_true, decide_eq_true_iff] at hz
        simp only [Option.some.injEq, Prod.mk.injEq] at hg
        obtain ⟨rfl, rfl⟩ := hg
        have hs1 := hs.behind eq
        obtain ⟨w, w1, w2, w3⟩ := hs1.at hi
        refine ⟨w, w1, ?_⟩
        refine h p Fs Z H1 σ S e1 A _ _ e2 hs1 h1 fun x H2 B2 q2 => ?_
        have hx : Vw K p H2 x (.int n) B2 := q2.vw
        cases hx
        have hs2 := hs1.behind q2
        have eq2 := EQ.more hs eq q2.mv q2.src
        have w2' : Vw K p H2 w (.dct ks us) (A i) := w2.move q2.mv hs1.src.mut (hs1.ds i _ hi)
        obtain ⟨l, kvs, A1, rfl, g1, rfl, g3, g4, hA⟩ := vw_dct w2'
        have eA := g4.flat hz.1.1
        subst eA
        have eB := eq2.vw.flat hz.1.2
        subst eB
        have mu : MutK (H2 l) := by rw [g1]; exact True.intro
        obtain ⟨r1, r2, r3, _⟩ := val_put (j := .inl n) eq2.vw g4 rfl g3
        have im : Im H2 (upd H2 l (.dK (L2.putK kvs (.inl n) v))) := fun b u e1 n => by
          rw [upd_ne]
          · exact e1
          · intro z; subst z; rw [e1] at mu; exact n mu
        have hv' : Vw K p (upd H2 l (.dK (L2.putK kvs (.inl n) v))) (.ref l) (.dct (putDK (.inl n) (kvs.map (·.1))) (putDT (.inl n) c.t (kvs.map (·.1)) us)) [l] := by
          rw [← r2]
          exact .dct upd_same (by rw [r2]; exact r3) (r1.stay im fun b u m e1 => absurd m List.not_mem_nil)
        have q := SR.chg (pn := pn) hs2 hi w1 (by rw [hA]; exact List.mem_cons_self) (o := .dK (L2.putK kvs (.inl n) v)) (show MutK (some (HO.dK (L2.putK kvs (.inl n) v))) from True.intro) hv' (by simp) (fun b m => by rw [hA]; exact .inl m)
        have st : Sto false [i] σ S A H1 σ (S.set i (some ⟨.own, .dct (putDK (.inl n) (kvs.map (·.1))) (putDT (.inl n) c.t (kvs.map (·.1)) us)⟩)) (putA A i [l]) (upd H2 l (.dK (L2.putK kvs (.inl n) v))) := by
          have s0 : Sto false [i] σ S A H2 σ (S.set i (some ⟨.own, .dct (putDK (.inl n) (kvs.map (·.1))) (putDT (.inl n) c.t (kvs.map (·.1)) us)⟩)) (putA A i [l]) (upd H2 l (.dK (L2.putK kvs (.inl n) v))) := Sto.chg mu
          refine ⟨s0.len, s0.out, fun b u e1 n => s0.im b u (q2.mv b u e1 fun z => ?_) n, fun z => nomatch z⟩
          have mu1 := hs1.src.mut b z
          rw [e1] at mu1
          exact n mu1
        refine ⟨l, _, rfl, DPut.k (k := .inl n) g1 ?_, k _ _ _ q.1 (q.2 H A S (Go.ex hs (eq.mv.trans0 q2.mv) q2.src) fun b m => by rw [hA]; exact .inl m) st⟩
        have := g4.length
        rw [List.length_map] at this
        rw [this]
        exact hz.2
      · cases hg
    · cases hg
theorem dg_ixD (i : Nat) {j : Nat} {x : Str} {idx : Expr} {ti : TE} {fi : Ex} {p1 p2 : Pos} (hr : Room j X.A) (h : DX K X idx ti fi) (hN : X.N[i]? = some x := by rfl) (hv : Vis X.env.scope x := by first | exact Or.inl rfl | exact Or.inr (Or.inl rfl) | exact Or.inr (Or.inr rfl)) (hd : (x == ("__debug__" : Str)) = false := by decide)
    (hcd : (x == ("__classdict__" : Str)) = false := by decide) (ha : ∀ v, assign (.Subscript (.Name x p1) idx p2) X.env v = (do
      let ov ← holding [v] (eval (.Name x p1) X.env)
      let iv ← holding [v, ov] (eval idx X.env)
      standAt p2
      holding [v, ov, iv] (setItem ov iv v)
      release [v, ov, iv] []) := by intro _; rfl) : DG K X pn false (.Subscript (.Name x p1) idx p2) [i] (L2.gSub (tVar i) ti rSetD) (gIxD i fi) :=
  ⟨pg_sub (pe_var hN hv hd hcd) h.pe (set_dict (room_one hr)) ha, rdg_ixD i h.rd⟩
/-! dict(pairs), int keys, flat values -/
def T.pair? : T → Option (Key × T)
  | .tup [.int i, t] => some (.inl i, t)
  | _ => none
def mergeT (kts : List (Key × T)) : List Key × List T := kts.foldl (fun acc kt => (putDK kt.1 acc.1, putDT kt.1 kt.2 acc.1 acc.2)) ([], [])
def gDict : GN
  | [.lst us] => (us.mapM T.pair?).bind fun kts => if kts.all (fun kt => kt.2.flat) then some (true, .dct (mergeT kts).1 (mergeT kts).2) else none
  | _ => none
theorem pairs_up {p : Addr} {H : Hp} : ∀ {us : List T} {kts : List (Key × T)} {vs : List V} {A : List Addr}, VwL K p H vs us A → us.mapM T.pair? = some kts → ∃ (ps : List Addr) (kvs : List (Key × V)), vs = ps.map V.ref ∧ Paired (fun p kv => SqT K H p [kV kv.1, kv.2]) ps kvs ∧ kvs.map (·.1) = kts.map (·.1) ∧ VwL K p H (kvs.map (·.2)) (kts.map (·.2)) []
  | [], kts, vs, A, h, e => by
    rw [List.mapM_nil] at e
    cases e
    cases h
    exact ⟨[], [], rfl, .nil, rfl, .nil⟩
  | u :: us, kts, vs, A, h, e => by
    rw [List.mapM_cons] at e
    cases e1 : u.pair? with
    | none => rw [e1] at e; cases e
    | some kt =>
      cases e2 : us.mapM T.pair? with
      | none => rw [e1, e2] at e; cases e
      | some r =>
        rw [e1, e2] at e
        cases e
        cases h with
        | cons h1 h2 =>
          obtain ⟨ps, kvs, rfl, q1, q2, q3⟩ := pairs_up h2 e2
          unfold T.pair? at e1
          split at e1
          · rename_i i t
            cases e1
            cases h1 with
            | @tup a xs _ g1 g2 =>
              obtain ⟨v1, ws, rfl, g3, g4⟩ := vwl_cons_nil g2 rfl
              obtain ⟨v2, ws2, rfl, g5, g6⟩ := vwl_cons_nil g4 rfl
              cases g6
              cases g3
              refine ⟨a :: ps, (.inl i, v2) :: kvs, rfl, .cons g1.t q1, by rw [List.map_cons, List.map_cons, q2], .cons g5 q3⟩
          · cases e1
theorem merge_up {p : Addr} {H : Hp} : ∀ {kvs more : List (Key × V)} {kts : List (Key × T)} {ts : List T}, VwL K p H (kvs.map (·.2)) ts [] → (kvs.map (·.1)).Nodup → VwL K p H (more.map (·.2)) (kts.map (·.2)) [] → more.map (·.1) = kts.map (·.1) →
    (mergeK kvs more).map (·.1) = (kts.foldl (fun acc kt => (putDK kt.1 acc.1, putDT kt.1 kt.2 acc.1 acc.2)) (kvs.map (·.1), ts)).1 ∧ ((mergeK kvs more).map (·.1)).Nodup ∧ VwL K p H ((mergeK kvs more).map (·.2)) (kts.foldl (fun acc kt => (putDK kt.1 acc.1, putDT kt.1 kt.2 acc.1 acc.2)) (kvs.map (·.1), ts)).2 []
  | kvs, [], [], ts, h, nd, _, _ => ⟨rfl, nd, h⟩
  | kvs, [], _ :: _, _, _, _, _, e => by cases e
  | kvs, _ :: _, [], _, _, _, _, e => by cases e
  | kvs, (k, v) :: more, (k', t) :: kts, ts, h, nd, hm, e => by
    rw [List.map_cons, List.map_cons] at e
    have ek : k = k' := (List.cons.inj e).1
    have er := (List.cons.inj e).2
    subst ek
    obtain ⟨w, ws, ew, g1, g2⟩ := vwl_cons_nil (show VwL K p H (v :: more.map (·.2)) (t :: kts.map (·.2)) [] from hm) rfl
    cases ew
    obtain ⟨r1, r2, r3, _⟩ := val_put (j := k) g1 h rfl nd
    have ih := merge_up (kvs := L2.putK kvs k v) (more := more) (kts := kts) (ts := putDT k t (kvs.map (·.1)) ts) r1 (by rw [r2]; exact r3) g2 er
    rw [r2] at ih
    exact ih
theorem on_dict : ON K (fun xs H Q => ∃ (a : Addr) (ps : List Addr) (kvs : List (Key × V)), xs = [.ref a] ∧ SqL K H a (ps.map V.ref) ∧ Paired (fun p kv => SqT K H p [kV kv.1, kv.2]) ps kvs ∧ ∀ p, H p = none → Q (.ref p) (upd H p (.dK (mergeK [] kvs)))) gDict := fun p H xs ts B n t Q hv hg k => by
  unfold gDict at hg
  split at hg
  · rename_i us
    rw [Option.bind_eq_some_iff] at hg
    obtain ⟨kts, e, hg⟩ := hg
    split at hg
    · rename_i hfl
      cases hg
      obtain ⟨v, rfl, h1⟩ := vwl1 hv
      cases h1 with
      | lst h2 h3 =>
        obtain ⟨ps, kvs, rfl, q1, q2, q3⟩ := pairs_up h3 e
        refine ⟨_, ps, kvs, rfl, SqL.of h2, q1, fun l hl => ?_⟩
        obtain ⟨m1, m2, m3⟩ := merge_up (kvs := []) (more := kvs) (kts := kts) (ts := []) .nil List.nodup_nil q3 q2
        refine k _ _ [l] ⟨?_, same_new hl, fun _ => ⟨by simp, fun a m => by rw [List.mem_singleton.mp m]; exact hl⟩, fun a m => by rw [List.mem_singleton.mp m]; exact .inr hl⟩
        unfold mergeT
        rw [show ([] : List Key) = ([] : List (Key × V)).map (·.1) from rfl, ← m1]
        exact .dct upd_same m2 (m3.same (same_new hl))
    · cases hg
  · cases hg
end
end DL

set_option Elab.async false
set_option linter.all false
set_option maxRecDepth 100000
set_option maxHeartbeats 1000000
namespace DL
open PySem PySem.Spec PyProof.Rows L2

/-! ### repr(x), texts alike -/
def showOk (d : PyData) : Bool := d.layable0 && d.intsShort 13 && d.showable && !d.hasDict && isDisplay d
def rRepr (K : PySem.W.Frag) : List V → Hp → VK → Prop := fun vs H Q => ∃ v d, vs = [v] ∧ Dp K H v d ∧ showOk d = true ∧ Q (.str d.shown) H
theorem cr_repr {X : Cx} (hg : X.A.guards = some []) (hu : X.A.units + 70 < cLine) : CallR X (.builtin "repr") (rRepr X.K) := by
  intro pins s σ H vs us Q I r h
  obtain ⟨v, d, rfl, hd, ho, q⟩ := h
  obtain ⟨u, rfl, ru⟩ := vals1 r
  obtain ⟨as, rd⟩ := Dp.reads I d v u hd ru
  simp only [showOk, Bool.and_eq_true, Bool.not_eq_true'] at ho
  obtain ⟨⟨⟨⟨h1, h2⟩, h3⟩, h4⟩, h5⟩ := ho
  obtain ⟨a, rfl⟩ := isRef_of_reads rd h5
  have hd : d.depth ≤ 64 := SeqAt.depth_of_layable h1
  refine repr_of_reads' rd h3 (PyData.noDict_hsm h4) hg (by omega) (fun _ _ e => e) (fun h' u' tk hk => ⟨.str d.shown, H, I.kept (t' := tk) hk, ⟨_, rfl⟩, q⟩) ?_
  exact PyData.shown_fits_of_layable0 (B := 13) (by decide) (by decide) h1 h2
def gRepr : GN
  | [t] => t.py.bind fun d => if showOk d then some (true, .str d.shown) else none
  | _ => none
section
variable {K : PySem.W.Frag}
theorem on_repr : ON K (rRepr K) gRepr := fun p H xs ts B n t Q hv hg k => by
  unfold gRepr at hg
  split at hg
  · rename_i t
    rw [Option.bind_eq_some_iff] at hg
    obtain ⟨d, e, hg⟩ := hg
    split at hg
    · rename_i ho
      cases hg
      obtain ⟨v, rfl, h1⟩ := vwl1 hv
      exact ⟨v, d, rfl, h1.dp d e, ho, k _ _ _ (OQ.flat0 (.str _))⟩
    · cases hg
  · cases hg
def gEqS (neg : Bool) : G2
  | .str x, .str y => some (true, .bl (if neg then !decide (x = y) else decide (x = y)))
  | _, _ => none
theorem dec_strV (x y : Str) : decide (V.str x = V.str y) = decide (x = y) := by
  rw [Bool.eq_iff_iff]
  simp
theorem o_eqS : O2 K rEq (gEqS false) := fun p H x y tx ty B D n t Q hx hy hg k => by
  unfold gEqS at hg
  split at hg
  · cases hx
    cases hy
    cases hg
    refine ⟨rfl, ?_⟩
    rw [dec_strV]
    exact k _ _ _ (OQ.flat0 (.bl _))
  · cases hg
theorem o_neS : O2 K rNe (gEqS true) := fun p H x y tx ty B D n t Q hx hy hg k => by
  unfold gEqS at hg
  split at hg
  · cases hx
    cases hy
    cases hg
    refine ⟨rfl, ?_⟩
    rw [dec_strV]
    exact k _ _ _ (OQ.flat0 (.bl _))
  · cases hg
def gEqX (neg : Bool) : G2 := fun x y => (gEqS neg x y).orElse fun _ => gEqB neg x y
def rEqX (K : PySem.W.Frag) : R2 := fun x y H Q => rEq x y H Q ∨ rEqD K x y H Q
def rNeX (K : PySem.W.Frag) : R2 := fun x y H Q => rNe x y H Q ∨ rNeD K x y H Q
theorem opr_eq {X : Cx} (hu : X.A.units + 64 < cLine) : OpR X (compareOp .Eq) (rEqX X.K) := op_eq.or (op_eqD hu)
theorem opr_ne {X : Cx} (hu : X.A.units + 64 < cLine) : OpR X (compareOp .NotEq) (rNeX X.K) := op_ne.or (op_neD hu)
theorem o_eqX : O2 K (rEqX K) (gEqX false) := o2_or o_eqS o_eq
theorem o_neX : O2 K (rNeX K) (gEqX true) := o2_or o_neS o_ne
theorem gEqX_en {α : Type} [DecidableEq α] {f : α → T} {n : Nat} (h : En f n) (hn : n ≤ 64) (hs : ∀ a x, f a ≠ .str x) (neg : Bool) (a b : α) : gEqX neg (f a) (f b) = some (true, .bl (if neg then !decide (a = b) else decide (a = b))) := by
  have e : gEqS neg (f a) (f b) = none := by
    unfold gEqS
    split
    · rename_i x y e1 e2
      exact absurd e1 (hs a x)
    · rfl
  unfold gEqX
  rw [e, gEqB_en h hn neg a b]
  rfl
end
end DL

set_option Elab.async false
set_option linter.all false
set_option maxRecDepth 100000
set_option maxHeartbeats 1000000
namespace DL
open PySem PySem.Spec PyProof.Rows L2

/-! ### the source's fields -/
section
variable {K : PySem.W.Frag} {X : Cx} {pn : Bool} {pos : Pos} {a : Expr} {te : TE}
def isSrc (S : Slots) (i : Nat) : Bool := match S[i]? with
  | some (some ⟨_, .src⟩) => true
  | _ => false
theorem SR.src_at {p : Addr} {Fs : List Addr} {Z : Addr → Prop} {H : Hp} {σ : L2.St} {S : Slots} {e : Option Src} {A : Nat → List Addr} {i : Nat} (h : SR K p Fs Z H σ S e A) (hi : isSrc S i = true) : σ[i]? = some (some (.ref p)) := by
  unfold isSrc at hi
  split at hi
  · rename_i k e1
    obtain ⟨_, v, h1, h2⟩ := h.slot i _ e1
    generalize A i = B at h2
    have h2 : Vw K p H v .src B := h2
    cases h2
    exact h1
  · cases hi
def xSrcI (i : Nat) (f : Src → Int) : Ex := fun S e => match e with
  | some s => if isSrc S i then some (⟨.shr, .int (f s)⟩, some s) else none
  | none => none
theorem rd_srcI (i : Nat) {key : Str} {f : Src → Int} (hf : ∀ l s, valV (srcK l s) (.inr key) = some (.int (f s))) : Rd K (tDGet (tVar i) (tC (.str key))) (xSrcI i f) := fun p Fs Z H σ S e A Q c e' hs hx k => by
  unfold xSrcI at hx
  cases e with
  | none => cases hx
  | some s =>
    simp only at hx
    split at hx
    · rename_i hi
      simp only [Option.some.injEq, Prod.mk.injEq] at hx
      obtain ⟨rfl, rfl⟩ := hx
      obtain ⟨l, h1, h2, h3, h4⟩ := id hs.src
      have g : DGet H p (.str key) (some (.int (f s))) := by rw [← hf l s]; exact DGet.k (k := .inr key) h1
      exact ⟨.ref p, hs.src_at hi, p, _, rfl, g, k _ H [] (EQ.flat (.int _) hs.src (Mv.refl _ _))⟩
    · cases hx
theorem dx_srcI (i : Nat) {j : Nat} {x key : Str} {f : Src → Int} {p1 p2 : Pos} {jj : Nat} (hf : ∀ l s, valV (srcK l s) (.inr key) = some (.int (f s))) (hr : Room j X.A) (hN : X.N[i]? = some x := by rfl) (hv : Vis X.env.scope x := by first | exact Or.inl rfl | exact Or.inr (Or.inl rfl) | exact Or.inr (Or.inr rfl))
    (hd : (x == ("__debug__" : Str)) = false := by decide) (hcd : (x == ("__classdict__" : Str)) = false := by decide) (hs : NoSl (.Constant (.str key) jj p2) := by intro _ _; rfl) :
    DX K X (.Subscript (.Name x p1) (.Constant (.str key) jj p2) pos) (tDGet (tVar i) (tC (.str key))) (xSrcI i f) := ⟨pe_dget (room_one hr) (pe_var hN hv hd hcd) pe_str hs, rd_srcI i hf⟩
theorem v_left (l : Addr) (s : Src) : valV (srcK l s) (.inr "left") = some (.int s.left) := rfl
theorem v_mixed (l : Addr) (s : Src) : valV (srcK l s) (.inr "mixed") = some (.int s.mixed) := rfl
theorem v_turn (l : Addr) (s : Src) : valV (srcK l s) (.inr "turn") = some (.int s.turn) := rfl
theorem v_cells (l : Addr) (s : Src) : valV (srcK l s) (.inr "cells") = some (.ref l) := rfl
def xSrcLen (i : Nat) : Ex := fun S e => match e with
  | some s => if isSrc S i then some (⟨.shr, .int s.cells.length⟩, some s) else none
  | none => none
theorem dx_srcLen (i : Nat) {j : Nat} {x : Str} {p1 p2 p3 p4 : Pos} {jj : Nat} (hr : Room j X.A) (hm : X.mg "len" = none) (hK : X.K = K := by rfl) (hN : X.N[i]? = some x := by rfl) (hv : Vis X.env.scope x := by first | exact Or.inl rfl | exact Or.inr (Or.inl rfl) | exact Or.inr (Or.inr rfl))
    (hd : (x == ("__debug__" : Str)) = false := by decide) (hcd : (x == ("__classdict__" : Str)) = false := by decide) (hg : Gl X "len" := by rfl) (hs : NoSl (.Constant (.str "cells") jj p2) := by intro _ _; rfl)
    (he : starEach [.Subscript (.Name x p1) (.Constant (.str "cells") jj p2) p3] X.env = (false, eval (.Subscript (.Name x p1) (.Constant (.str "cells") jj p2) p3) X.env) :: starEach [] X.env := by rfl) (hpl : (backTo pos (starEach [] X.env)).any (·.1) = false := by rfl) :
    DX K X (.Call (.Name "len" p4) [.Subscript (.Name x p1) (.Constant (.str "cells") jj p2) p3] [] pos) (tCB (fun xs H Q => ∃ p ys, xs = [.ref p] ∧ (SqL K H p ys ∨ SqT K H p ys) ∧ Q (.int ys.length) H) (tCons (tDGet (tVar i) (tC (.str "cells"))) tNil)) (xSrcLen i) := by
  subst hK
  refine ⟨pe_callB call_len_seq hg hm boot_len (pa_cons (pe_dget (room_one hr) (pe_var hN hv hd hcd) pe_str hs) pa_nil he) (he := he) (hpl := hpl), fun p Fs Z H σ S e A Q c e' hs hx k => ?_⟩
  unfold xSrcLen at hx
  cases e with
  | none => cases hx
  | some s =>
    simp only at hx
    split at hx
    · rename_i hi
      simp only [Option.some.injEq, Prod.mk.injEq] at hx
      obtain ⟨rfl, rfl⟩ := hx
      obtain ⟨l, h1, h2, h3, h4⟩ := id hs.src
      have g : DGet H p (.str "cells") (some (.ref l)) := by rw [← v_cells l s]; exact DGet.k (k := .inr "cells") h1
      refine ⟨.ref p, hs.src_at hi, p, _, rfl, g, l, _, rfl, .inl (SqL.of h2), ?_⟩
      rw [List.length_map]
      exact k _ H [] (EQ.flat (.int _) hs.src (Mv.refl _ _))
    · cases hx
/-! source[key] = e -/
def sSrcSet (i : Nat) (g : Src → Int → Src) (f : Ex) : Sx := fun S e => do
  let (c, e) ← f S e
  match c.t, e with
  | .int v, some s => if isSrc S i then some (.nx, S, some (g s v)) else none
  | _, _ => none
theorem SR.resrc {p : Addr} {Fs : List Addr} {Z : Addr → Prop} {H H' : Hp} {σ : L2.St} {S : Slots} {e e' : Option Src} {A : Nat → List Addr} (h : SR K p Fs Z H σ S e A) (m : Mv Fs H H') (s : SrcR p H' e' Fs) : SR K p Fs Z H' σ S e' A := h.move m s
theorem rds_srcSet (i : Nat) {key : Str} {g : Src → Int → Src} (hg : ∀ l s v, L2.putK (srcK l s) (.inr key) (.int v) = srcK l (g s v)) (hc : ∀ s v, (g s v).cells = s.cells) {f : Ex} (h : Rd K te f) : RdS K pn (sDPut (tVar i) (tC (.str key)) te) (sSrcSet i g f) := fun p Fs Z H σ S e A D fl S' e' hs hx k => by
  unfold sSrcSet at hx
  cases h1 : f S e with
  | none => rw [h1] at hx; cases hx
  | some z =>
    obtain ⟨c, e1⟩ := z
    rw [h1] at hx
    simp only [Option.bind_eq_bind, Option.bind_some] at hx
    split at hx
    · rename_i v s ht
      split at hx
      · rename_i hi
        simp only [Option.some.injEq, Prod.mk.injEq] at hx
        obtain ⟨rfl, rfl, rfl⟩ := hx
        refine h p Fs Z H σ S e A _ c _ hs h1 fun w H1 B q => ?_
        have hv := q.vw
        rw [ht] at hv
        cases hv
        have hs1 := hs.behind q
        obtain ⟨l, g1, g2, g3, g4⟩ := id q.src
        have pF : p ∈ Fs := by rw [g4]; exact List.mem_cons_self
        have sr : SrcR p (upd H1 p (.dK (srcK l (g s v)))) (some (g s v)) Fs := ⟨l, upd_same, by rw [upd_ne g3, hc]; exact g2, g3, g4⟩
        have mv : Mv Fs H1 (upd H1 p (.dK (srcK l (g s v)))) := fun b o e n => by
          rw [upd_ne (fun z => n (by rw [z]; exact pF))]
          exact e
        refine ⟨.ref p, hs.src_at hi, p, upd H1 p (.dK (srcK l (g s v))), rfl, ?_, k _ σ A (hs1.move mv sr) (Go.ex hs (q.mv.trans0 mv) sr)⟩
        rw [← hg]
        exact DPut.k (k := .inr key) g1 (by show 4 < sizeLine; decide)
      · cases hx
    · cases hx
theorem ds_srcSet (i : Nat) {j : Nat} {x key : Str} {g : Src → Int → Src} {f : Ex} {p1 p2 p3 : Pos} {jj : Nat} (hg : ∀ l s v, L2.putK (srcK l s) (.inr key) (.int v) = srcK l (g s v)) (hc : ∀ s v, (g s v).cells = s.cells) (hr : Room j X.A) (h : DX K X a te f) (hN : X.N[i]? = some x := by rfl) (hv : Vis X.env.scope x := by first | exact Or.inl rfl | exact Or.inr (Or.inl rfl) | exact Or.inr (Or.inr rfl))
    (hd : (x == ("__debug__" : Str)) = false := by decide) (hcd : (x == ("__classdict__" : Str)) = false := by decide) (hs : swapsWith a (some (.Subscript (.Name x p1) (.Constant (.str key) jj p2) p3)) pos.line X.env = pure false := by rfl) :
    DS K X pn (.Assign [.Subscript (.Name x p1) (.Constant (.str key) jj p2) p3] a pos) (sDPut (tVar i) (tC (.str key)) te) (sSrcSet i g f) := ⟨ps_dput (room_one hr) (pe_var hN hv hd hcd) pe_str h.pe hs, rds_srcSet i hg hc h.rd⟩
theorem p_left (l : Addr) (s : Src) (v : Int) : L2.putK (srcK l s) (.inr "left") (.int v) = srcK l { s with left := v } := rfl
theorem p_mixed (l : Addr) (s : Src) (v : Int) : L2.putK (srcK l s) (.inr "mixed") (.int v) = srcK l { s with mixed := v } := rfl
theorem p_turn (l : Addr) (s : Src) (v : Int) : L2.putK (srcK l s) (.inr "turn") (.int v) = srcK l { s with turn := v } := rfl
/-! source['left'] = source['cells'].pop() -/
def sSrcPop (i : Nat) : Sx := fun S e => match e with
  | some s => if isSrc S i then match s.cells.getLast? with
      | some v => some (.nx, S, some { s with cells := s.cells.dropLast, left := v })
      | none => none
    else none
  | none => none
theorem ds_srcPop (i : Nat) {j : Nat} {x : Str} {p1 p2 p3 p4 p5 p6 p7 p8 : Pos} {j1 j2 : Nat} (hr : Room j X.A) (hK : X.K = K := by rfl) (hN : X.N[i]? = some x := by rfl) (hv : Vis X.env.scope x := by first | exact Or.inl rfl | exact Or.inr (Or.inl rfl) | exact Or.inr (Or.inr rfl))
    (hd : (x == ("__debug__" : Str)) = false := by decide) (hcd : (x == ("__classdict__" : Str)) = false := by decide) (hs : swapsWith (.Call (.Attribute (.Subscript (.Name x p4) (.Constant (.str "cells") j2 p5) p6) "pop" p7) [] [] p8) (some (.Subscript (.Name x p1) (.Constant (.str "left") j1 p2) p3)) pos.line X.env = pure false := by rfl)
    (hbase : attributeBase (.Subscript (.Name x p4) (.Constant (.str "cells") j2 p5) p6) "pop" X.env (eval (.Subscript (.Name x p4) (.Constant (.str "cells") j2 p5) p6) X.env) = eval (.Subscript (.Name x p4) (.Constant (.str "cells") j2 p5) p6) X.env := by rfl) (hline : (p7.endLine == p8.line) = true := by rfl) (hns : NoSl (.Constant (.str "cells") j2 p5) := by intro _ _; rfl) :
    DS K X pn (.Assign [.Subscript (.Name x p1) (.Constant (.str "left") j1 p2) p3] (.Call (.Attribute (.Subscript (.Name x p4) (.Constant (.str "cells") j2 p5) p6) "pop" p7) [] [] p8) pos) (sDPut (tVar i) (tC (.str "left")) (tBM0 K "list" rPop (tDGet (tVar i) (tC (.str "cells"))))) (sSrcPop i) := by
  subst hK
  refine ⟨ps_dput (room_one hr) (pe_var hN hv hd hcd) pe_str (pe_bm0 PySem.F.plainAttrs_list PySem.F.slot_list_pop PySem.F.type_list_pop mt_pop (pe_dget (room_one hr) (pe_var hN hv hd hcd) pe_str hns) hbase hline) hs, fun p Fs Z H σ S e A D fl S' e' hs hx k => ?_⟩
  unfold sSrcPop at hx
  cases e with
  | none => cases hx
  | some s =>
    simp only at hx
    split at hx
    · rename_i hi
      split at hx
      · rename_i v hv
        simp only [Option.some.injEq, Prod.mk.injEq] at hx
        obtain ⟨rfl, rfl, rfl⟩ := hx
        obtain ⟨l, h1, h2, h3, h4⟩ := id hs.src
        have g : DGet H p (.str "cells") (some (.ref l)) := by rw [← v_cells l s]; exact DGet.k (k := .inr "cells") h1
        have hp := hs.src_at hi
        have pF : p ∈ Fs := by rw [h4]; exact List.mem_cons_self
        have lF : l ∈ Fs := by rw [h4]; simp
        have hl : (s.cells.map V.int)[(s.cells.map V.int).length - 1]? = some (.int v) := by
          rw [List.length_map, List.getElem?_map, ← List.getLast?_eq_getElem?, hv]
          rfl
        have hH : (upd H l (.lst (s.cells.map V.int).dropLast)) p = some (.dK (srcK l s)) := by rw [upd_ne (Ne.symm h3)]; exact h1
        have sr : SrcR p (upd (upd H l (.lst (s.cells.map V.int).dropLast)) p (.dK (srcK l { s with left := v }))) (some { s with cells := s.cells.dropLast, left := v }) Fs :=
          ⟨l, upd_same, by rw [upd_ne h3, upd_same, List.map_dropLast], h3, h4⟩
        have mv : Mv Fs H (upd (upd H l (.lst (s.cells.map V.int).dropLast)) p (.dK (srcK l { s with left := v }))) := fun b o e n => by
          rw [upd_ne (fun z => n (by rw [z]; exact pF)), upd_ne (fun z => n (by rw [z]; exact lF))]
          exact e
        refine ⟨.ref p, hp, p, .ref l, rfl, g, .inl ⟨rfl, _, SqL.of h2⟩, l, _, .int v, rfl, rfl, h2, hl, .ref p, hp, p, _, rfl, DPut.k (k := .inr "left") hH (by show 4 < sizeLine; decide), ?_⟩
        exact k _ σ A (hs.move mv sr) (Go.ex hs mv sr)
      · cases hx
    · cases hx
/-! not x, as a value -/
def xNot (f : Ex) : Ex := fun S e => do
  let (c, e) ← f S e
  match c.t with
  | .bl b => some (⟨.shr, .bl (!b)⟩, e)
  | _ => none
theorem dx_not {f : Ex} (h : DX K X a te f) : DX K X (.UnaryOp .Not a pos) (tNotV te) (xNot f) := ⟨pe_not h.pe, fun p Fs Z H σ S e A Q c e' hs hf k => by
  unfold xNot at hf
  cases h1 : f S e with
  | none => rw [h1] at hf; cases hf
  | some z =>
    obtain ⟨⟨kc, tc⟩, e1⟩ := z
    rw [h1] at hf
    simp only [Option.bind_eq_bind, Option.bind_some] at hf
    cases tc with
    | bl b =>
      simp only [Option.some.injEq, Prod.mk.injEq] at hf
      obtain ⟨rfl, rfl⟩ := hf
      refine h.rd p Fs Z H σ S e A _ _ e1 hs h1 fun v H1 B q => ?_
      have hv : Vw K p H1 v (.bl b) B := q.vw
      cases hv
      exact ⟨b, rfl, k _ H1 [] (EQ.flat (.bl _) q.src q.mv)⟩
    | _ => cases hf⟩
theorem room70 {j : Nat} {A : Around} (h : Room j A) : A.units + 70 < cLine := by have := h.un; omega
end
end DL

set_option Elab.async false
set_option linter.all false
set_option maxRecDepth 100000
set_option maxHeartbeats 1000000
namespace DL
open PySem PySem.Spec PyProof.Rows L2

/-! ### [rest.pop(pick(source, len(rest))) for lap in range(len(rest))] -/
def mixL (g : GS) : Nat → List T → Src → List T → Option (List T × Src)
  | 0, _, s, acc => some (acc, s)
  | n + 1, us, s, acc => (g [.src, .int us.length] s).bind fun z => match z.2.1 with
    | .int k => if -(2 ^ 63) ≤ k ∧ k < 2 ^ 63 then (seqIndex? k us.length).bind fun j => (us[j]?).bind fun u => if acc.length < sizeLine then mixL g n (us.eraseIdx j) z.2.2 (acc ++ [u]) else none else none
    | _ => none
def sMixed (g : GS) : Sx := fun S e => match S, e with
  | [some ⟨k, .src⟩, c1, some ⟨.own, .lst us⟩, c3], some s => if us.all T.flat = true ∧ us.length ≤ sizeLine then (mixL g us.length us s []).map fun z => (.ret ⟨.own, .lst z.1⟩, [some ⟨k, .src⟩, c1, none, c3], some z.2) else none
  | _, _ => none
abbrev rLenX (K : PySem.W.Frag) : List V → Hp → VK → Prop := fun xs H Q => ∃ p ys, xs = [.ref p] ∧ (SqL K H p ys ∨ SqT K H p ys) ∧ Q (.int ys.length) H
abbrev tMixed (K : PySem.W.Frag) (g : GS) : TE := tLc (iRng1 (tCons (tCB (rLenX K) (tCons (tVar 2) tNil)) tNil)) (gName 3) tYes (tBM K "list" rPopAt (tVar 2) (tCons (tCall (spS K 2 g) [] E0 (tCons (tVar 0) (tCons (tCB (rLenX K) (tCons (tVar 2) tNil)) tNil))) tNil)) [3]
theorem VwL.eraseF {K : PySem.W.Frag} {p : Addr} {H : Hp} : ∀ {vs : List V} {us : List T} {A : List Addr}, VwL K p H vs us A → A = [] → ∀ j : Nat, VwL K p H (vs.eraseIdx j) (us.eraseIdx j) []
  | _, _, _, .nil, _, j => .nil
  | _, _, _, .cons (A := A) (B := B) h r, e, 0 => by
    obtain ⟨e1, e2⟩ := List.append_eq_nil_iff.mp e
    subst e2
    exact r
  | _, _, _, .cons (A := A) (B := B) h r, e, j + 1 => by
    obtain ⟨e1, e2⟩ := List.append_eq_nil_iff.mp e
    subst e1 e2
    exact .cons h (r.eraseF rfl j)
theorem all_erase {us : List T} (h : us.all T.flat = true) (j : Nat) : (us.eraseIdx j).all T.flat = true := all_sub h fun t m => List.mem_of_mem_eraseIdx m
theorem rds_mixed {K : PySem.W.Frag} {pn : Bool} {g : GS} : RdS K pn (tRet (tMixed K g)) (sMixed g) := fun p Fs Z H σ S e A D fl S' e' hs hf k => by
  unfold sMixed at hf
  split at hf
  · rename_i kd c1 us c3 s
    split at hf
    · rename_i hfl
      rw [Option.map_eq_some_iff] at hf
      obtain ⟨⟨acc, s1⟩, hm, e0⟩ := hf
      simp only [Prod.mk.injEq] at e0
      obtain ⟨rfl, rfl, rfl⟩ := e0
      obtain ⟨l, xs, B, v1, v2, v3, v4, v5, v6⟩ := hs.lst (i := 2) (us := us) rfl
      have eB := v3.flat hfl.1
      subst eB
      have v0 : σ[0]? = some (some (.ref p)) := hs.src_at (i := 0) rfl
      obtain ⟨lc, h1, h2, h3, h4⟩ := id hs.src
      have pF : p ∈ Fs := by rw [h4]; exact List.mem_cons_self
      have lF : l ∉ Fs := hs.ds 2 _ rfl l (by rw [v4]; exact List.mem_cons_self)
      have hlen : xs.length = us.length := v3.length
      have hsl := sizeLine_eq
      refine ⟨.ref l, v1, l, xs, rfl, .inl (SqL.of v2), (us.length : Int), by rw [hlen], by omega, by omega, fun Dl hD => ?_⟩
      have DF : Dl ∉ Fs := fun z => by
        have mu := hs.src.mut Dl z
        rw [hD] at mu
        exact mu
      have Dl_ne : Dl ≠ l := fun z => by rw [z, v2] at hD; cases hD
      have same0 : Same H (upd H Dl (.lst [])) := same_new hD
      rw [Int.toNat_natCast]
      refine ⟨fun i m H' => m = us.length - i ∧ i ≤ us.length ∧ ∃ (si : Src) (ui : List T) (xi av : List V) (ac : List T), SrcR p H' (some si) Fs ∧ H' l = some (.lst xi) ∧ VwL K p H' xi ui [] ∧ ui.all T.flat = true ∧ ui.length + i = us.length ∧ H' Dl = some (.lst av) ∧ VwL K p H' av ac [] ∧ ac.length = i ∧
        mixL g (us.length - i) ui si ac = some (acc, s1) ∧ (∀ b o, H b = some o → b ∉ Fs → b ≠ l → H' b = some o) ∧ (∀ b, H' b = none → H b = none), ⟨us.length, rfl, Nat.zero_le _, s, us, xs, [], [], ?_⟩, ?_⟩
      · refine ⟨hs.src.stay fun a o _ z => same0 a o z, same0 l _ v2, v3.same same0, hfl.1, by omega, upd_same, .nil, rfl, hm, fun b o e _ _ => same0 b o e, fun b z => same0.free z⟩
      · rintro i m H' ⟨rfl, hle, si, ui, xi, av, ac, w1, w2, w3, w4, w5, w6, w7, wa, w8, w10, w11⟩
        by_cases hi : i < us.length
        · refine .inr ⟨hi, fun H3 => ∃ (si : Src) (ui : List T) (xi av : List V) (ac : List T), SrcR p H3 (some si) Fs ∧ H3 l = some (.lst xi) ∧ VwL K p H3 xi ui [] ∧ ui.all T.flat = true ∧ ui.length + (i + 1) = us.length ∧ H3 Dl = some (.lst av) ∧ VwL K p H3 av ac [] ∧ ac.length = i + 1 ∧
            mixL g (us.length - (i + 1)) ui si ac = some (acc, s1) ∧ (∀ b o, H b = some o → b ∉ Fs → b ≠ l → H3 b = some o) ∧ (∀ b, H3 b = none → H b = none), fun H3 q => ⟨us.length - (i + 1), by omega, rfl, hi, q⟩, fun x H3 y => ?_⟩
          obtain ⟨rfl, rfl⟩ := y
          have wip : L2.wipe (L2.wipe σ [3] |>.set 3 (some (.int (0 + (i : Nat))))) [3] = L2.wipe σ [3] := (wipe_eq (fun j mj => by
            rw [List.getElem?_set_ne (fun z => mj (by rw [← z]; exact List.mem_singleton.mpr rfl))]) (by rw [List.length_set])).trans wipe_wipe
          refine ⟨wip, ?_⟩
          unfold tYes
          dsimp only
          rw [if_pos rfl]
          have s2l : (L2.wipe σ [3] |>.set 3 (some (.int (0 + (i : Nat)))))[2]? = some (some (.ref l)) := by
            rw [List.getElem?_set_ne (by decide), wipe_off (by decide)]
            exact v1
          have s2s : (L2.wipe σ [3] |>.set 3 (some (.int (0 + (i : Nat)))))[0]? = some (some (.ref p)) := by
            rw [List.getElem?_set_ne (by decide), wipe_off (by decide)]
            exact v0
          refine ⟨.ref l, s2l, .inl ⟨rfl, xi, SqL.of w2⟩, .ref p, s2s, .ref l, s2l, l, xi, rfl, .inl (SqL.of w2), ?_⟩
          have en : us.length - i = (us.length - (i + 1)) + 1 := by omega
          rw [en] at w8
          unfold mixL at w8
          have hxl : (xi.length : Int) = (ui.length : Int) := by rw [w3.length]
          cases hg : g [.src, .int ui.length] si with
          | none => rw [hg] at w8; cases w8
          | some z =>
            obtain ⟨n0, t0, s'⟩ := z
            simp only [hg, Option.bind_some] at w8
            cases t0 with
            | int kk =>
              simp only at w8
              split at w8
              · rename_i hb
                cases hj : seqIndex? kk ui.length with
                | none => rw [hj] at w8; cases w8
                | some j =>
                  simp only [hj, Option.bind_some] at w8
                  cases hu : ui[j]? with
                  | none => rw [hu] at w8; cases w8
                  | some u =>
                    simp only [hu, Option.bind_some] at w8
                    split at w8
                    · rename_i hz
                      refine ⟨p, [.src, .int ui.length], [], Fs, si, s', n0, .int kk, ?_, rfl, w1, fun a m => absurd m List.not_mem_nil, hg, fun v H4 DD q => ?_⟩
                      · show VwL K p H3 [.ref p, .int (xi.length : Nat)] [.src, .int (ui.length : Nat)] []
                        rw [hxl]
                        exact .cons .src (.cons (.int _) .nil)
                      have hv : Vw K p H4 v (.int kk) DD := q.vw
                      cases hv
                      have dl4 : H4 l = some (.lst xi) := q.mv l _ w2 lF
                      have dD4 : H4 Dl = some (.lst av) := q.mv Dl _ w6 DF
                      have w3' : VwL K p H4 xi ui [] := w3.move q.mv w1.mut fun a m => absurd m List.not_mem_nil
                      have w7' : VwL K p H4 av ac [] := w7.move q.mv w1.mut fun a m => absurd m List.not_mem_nil
                      obtain ⟨y0, By, hy, vy, _⟩ := w3'.get hu
                      have eBy : By = [] := vy.flat (List.all_eq_true.mp w4 u (List.mem_of_getElem? hu))
                      subst eBy
                      have im5 : Im H4 (upd H4 l (.lst (xi.eraseIdx j))) := fun b o e n => by
                        rw [upd_ne]
                        · exact e
                        · intro z; subst z; rw [dl4] at e; cases e; exact n True.intro
                      have im6 : Im (upd H4 l (.lst (xi.eraseIdx j))) (upd (upd H4 l (.lst (xi.eraseIdx j))) Dl (.lst (av ++ [y0]))) := fun b o e n => by
                        rw [upd_ne]
                        · exact e
                        · intro z
                          subst z
                          rw [upd_ne Dl_ne, dD4] at e
                          cases e
                          exact n True.intro
                      have imAll := im5.trans im6
                      have hd5 : (upd H4 l (.lst (xi.eraseIdx j))) Dl = some (.lst av) := by rw [upd_ne Dl_ne]; exact dD4
                      refine ⟨l, xi, kk, j, y0, rfl, rfl, dl4, hb.1, hb.2, by rw [w3.length]; exact hj, hy, av, hd5, by rw [w7.length]; exact hz, ?_⟩
                      have keepS : ∀ b o, b ≠ l → b ≠ Dl → H4 b = some o → (upd (upd H4 l (.lst (xi.eraseIdx j))) Dl (.lst (av ++ [y0]))) b = some o := fun b o n1 n2 e => by
                        rw [upd_ne n2, upd_ne n1]; exact e
                      refine ⟨s', ui.eraseIdx j, xi.eraseIdx j, av ++ [y0], ac ++ [u], q.src.stay fun b o m e => keepS b o (fun z => lF (by rw [← z]; exact m)) (fun z => DF (by rw [← z]; exact m)) e, by rw [upd_ne (Ne.symm Dl_ne), upd_same], ?_, all_erase w4 j, ?_, upd_same, ?_, by rw [List.length_append, wa]; rfl, w8, fun b o e n1 n2 => ?_, fun b z => ?_⟩
                      · exact (w3'.eraseF rfl j).stay imAll fun a o m _ => absurd m List.not_mem_nil
                      · have : j < ui.length := (List.getElem?_eq_some_iff.mp hu).1
                        rw [List.length_eraseIdx, if_pos this]
                        omega
                      · have := VwL.snoc w7' vy
                        exact this.stay imAll fun a o m _ => absurd m List.not_mem_nil
                      · have bD : b ≠ Dl := fun z => by rw [z, hD] at e; cases e
                        exact keepS b o n2 bD (q.mv b o (w10 b o e n1 n2) n1)
                      · have z4 : H4 b = none := by
                          by_cases y1 : b = Dl
                          · rw [y1, upd_same] at z; cases z
                          · by_cases y2 : b = l
                            · rw [upd_ne y1, y2, upd_same] at z; cases z
                            · rw [upd_ne y1, upd_ne y2] at z; exact z
                        exact w11 b (q.mv.none_src q.src z4)
                    · cases w8
              · cases w8
            | _ => simp only [reduceCtorEq] at w8
        · have e0 : i = us.length := by omega
          subst e0
          refine .inl ⟨Nat.le_refl _, ?_⟩
          rw [Nat.sub_self] at w8
          unfold mixL at w8
          simp only [Option.some.injEq, Prod.mk.injEq] at w8
          obtain ⟨rfl, rfl⟩ := w8
          have e5 : ui = [] := List.eq_nil_of_length_eq_zero (by omega)
          subst e5
          have oneA : Own [some ⟨kd, .src⟩, c1, some ⟨.own, .lst us⟩, c3] A l := ⟨2, .lst us, rfl, by rw [v4]; exact List.mem_cons_self⟩
          -- the state, its list given up
          have hs0 : SR K p Fs Z H σ [some ⟨kd, .src⟩, c1, none, c3] (some s) A := hs.drop 2
          have kp : ∀ b o, H b = some o → b ∉ Fs → b ≠ l → H' b = some o := w10
          have im : Im H H' := fun b o e n => kp b o e (fun z => by
            have mu := hs.src.mut b z
            rw [e] at mu
            exact n mu) (fun z => by
            subst z
            rw [v2] at e
            cases e
            exact n True.intro)
          have notl : ∀ (j : Nat) (c : Cell), [some ⟨kd, .src⟩, c1, none, c3][j]? = some (some c) → l ∉ A j := fun j c hj => by
            have nj : j ≠ 2 := fun z => by subst z; cases hj
            have hj' : [some ⟨kd, .src⟩, c1, some ⟨.own, .lst us⟩, c3][j]? = some (some c) := by
              match j, nj, hj with
              | 0, _, h => exact h
              | 1, _, h => exact h
              | 3, _, h => exact h
              | j + 4, _, h => exact h
            exact hs.dj 2 j (.lst us) c rfl hj' (Ne.symm nj) l (by rw [v4]; exact List.mem_cons_self)
          have sr' : SR K p Fs Z H' σ [some ⟨kd, .src⟩, c1, none, c3] (some si) A := by
            refine ⟨hs0.len, fun j c hj => ?_, hs0.nd, hs0.dj, w1, hs0.ds, hs0.z, fun a z => hs0.zn a (w11 a z)⟩
            obtain ⟨k1, v, u1, u2⟩ := hs0.slot j c hj
            exact ⟨k1, v, u1, u2.stay im fun b o m e => kp b o e (hs0.ds j c hj b m) (fun z => notl j c hj (by rw [← z]; exact m))⟩
          have ownBack : ∀ b, Own [some ⟨kd, .src⟩, c1, none, c3] A b → Own [some ⟨kd, .src⟩, c1, some ⟨.own, .lst us⟩, c3] A b := fun b w => Own.drop (i := 2) (S := [some ⟨kd, .src⟩, c1, some ⟨.own, .lst us⟩, c3]) w
          have go : Go Fs pn σ [some ⟨kd, .src⟩, c1, some ⟨.own, .lst us⟩, c3] A H σ [some ⟨kd, .src⟩, c1, none, c3] A H' := by
            refine ⟨⟨fun b o e n1 n2 => kp b o e n1 fun z => n2 (by rw [z]; exact oneA), fun b w => .inl (ownBack b w)⟩, fun b o e => ?_, fun _ => rfl⟩
            cases z : H' b with
            | none => rw [w11 b z] at e; cases e
            | some u => exact ⟨u, rfl⟩
          refine k H' σ A (.ref Dl) [Dl] sr' go ⟨.lst w6 w7, fun a m => by rw [List.mem_singleton.mp m]; exact DF, fun _ => ⟨by simp, fun a m => ?_⟩, fun a m => by rw [List.mem_singleton.mp m]; exact hs.zn Dl hD⟩
          rw [List.mem_singleton.mp m]
          refine ⟨.inr hD, fun ⟨j, c, hj, mj⟩ => ?_⟩
          have mu := hs0.mut hj Dl mj
          rw [hD] at mu
          exact mu
    · cases hf
  · cases hf
end DL

set_option Elab.async false
set_option linter.all false
set_option maxRecDepth 100000
set_option maxHeartbeats 1000000
namespace DL
open PySem PySem.Spec PyProof.Rows L2

/-! ### the law's source from its script -/
def mixStep (m c : Int) : Int := (m * 69069 + c * 31 + 5) % 2147483629
def absI (i : Int) : Int := if i < 0 then -i else i
def srcOf (ns : List Int) : Src := ⟨(ns.map absI).reverse, 1, ns.foldl mixStep 11, 0⟩
def spSrc (K : PySem.W.Frag) : Sp := fun vs H Q _ => ∃ (a : Addr) (ns : List Int), vs = [.ref a] ∧ SqL K H a (ns.map V.int) ∧ ns.length ≤ 63 ∧ ∀ p l H', H p = none → H l = none → Same H H' → SrcR p H' (some (srcOf ns)) [p, l] → Q (.ref p) H'
theorem sqL_same {K : PySem.W.Frag} {H H' : Hp} {a : Addr} {xs : List V} (h : SqL K H a xs) (m : Same H H') : SqL K H' a xs := by
  rcases h with h | h
  · rcases h with h | ⟨o, h⟩
    · exact .inl (.inl (m _ _ h))
    · exact .inl (.inr ⟨o, m _ _ h⟩)
  · exact .inr h
abbrev xMixF : Ex := xBin gMod (xCall gInt1 (aCons (xBin gAdd (xBin gAdd (xBin gMul (xName 1) (xC (.int 69069))) (xBin gMul (xName 2) (xC (.int 31)))) (xC (.int 5))) aNil)) (xC (.int 2147483629))
abbrev xAbsF : Ex := xCall gAbs (aCons (xName 2) aNil)
abbrev tSource (K : PySem.W.Frag) (te ta : TE) : TS := tSeq (tAsg (tC (.int 11)) (gName 1)) (tSeq (tFor (iList K (tVar 0)) (gName 2) (tAsg te (gName 1))) (tRet (tDisp [(tC (.str "cells"), tRevL K (tLc (iList K (tVar 0)) (gName 2) tYes ta [2])), (tC (.str "left"), tC (.int 1)), (tC (.str "mixed"), tVar 1), (tC (.str "turn"), tC (.int 0))])))
/-- three slots, two of them whole numbers -/
theorem sr3 {K : PySem.W.Frag} {p : Addr} {H : Hp} {x0 : Option V} {x1 : Option V} {m c : Int} {b : Bool} (h1 : b = true → x1 = some (.int m)) : SR K p [] (fun _ => True) H [x0, x1, some (.int c)] [none, (if b = true then some ⟨.shr, .int m⟩ else none), some ⟨.shr, .int c⟩] none fun _ => [] := by
  refine ⟨rfl, fun i d hd => ?_, fun i t hd => List.nodup_nil, fun i j t d hd hj n a ma => absurd ma List.not_mem_nil, rfl, fun i d hd a ma => absurd ma List.not_mem_nil, fun i d hd a ma => trivial, fun a _ => trivial⟩
  match i, hd with
  | 0, hd => cases hd
  | 1, hd =>
    cases b with
    | true =>
      cases hd
      exact ⟨(fun z => nomatch z), .int m, by rw [h1 rfl]; rfl, .int m⟩
    | false => cases hd
  | 2, hd =>
    cases hd
    exact ⟨(fun z => nomatch z), .int c, rfl, .int c⟩
  | i + 3, hd => cases hd
theorem mod_lt (m c : Int) : -(2 ^ 64) < mixStep m c ∧ mixStep m c < 2 ^ 64 := by
  unfold mixStep
  have h1 := Int.emod_nonneg (m * 69069 + c * 31 + 5) (b := 2147483629) (by decide)
  have h2 := Int.emod_lt_of_pos (m * 69069 + c * 31 + 5) (b := 2147483629) (by decide)
  omega
theorem fmix : ∀ (m c : Int), xMixF [none, some ⟨.shr, .int m⟩, some ⟨.shr, .int c⟩] none = some (⟨.shr, .int (mixStep m c)⟩, none) := fun m c => by
  have e1 : gMul (.int m) (.int 69069) = some (true, .int (m * 69069)) := if_pos (.inr (by decide))
  have e2 : gMul (.int c) (.int 31) = some (true, .int (c * 31)) := if_pos (.inr (by decide))
  have e3 : ∀ x : Int, gMod (.int x) (.int 2147483629) = some (true, .int (x % 2147483629)) := fun x => by
    show ((if (0 : Int) < 2147483629 then some (T.int (x % 2147483629)) else none).map fun t => (true, t)) = _
    rw [if_pos (by decide)]
    rfl
  simp only [xMixF, xBin, xCall, aCons, aNil, xName, xC, nk, kOf, T.flat, List.getElem?_cons_succ, List.getElem?_cons_zero, Option.bind_eq_bind, Option.bind_some, if_true, e1, e2, gAdd, ts, List.map_cons, List.map_nil, gInt1, e3]
  rfl
theorem fabs (c : Int) (o : Option Cell) : xAbsF [none, o, some ⟨.shr, .int c⟩] none = some (⟨.shr, .int (absI c)⟩, none) := by
  simp only [xAbsF, xCall, aCons, aNil, xName, nk, kOf, T.flat, List.getElem?_cons_succ, List.getElem?_cons_zero, Option.bind_eq_bind, Option.bind_some, if_true, ts, List.map_cons, List.map_nil, gAbs]
  rfl
theorem take_foldl (ns : List Int) (i : Nat) (x : Int) (h : ns[i]? = some x) (a : Int) : (ns.take (i + 1)).foldl mixStep a = mixStep ((ns.take i).foldl mixStep a) x := by
  rw [List.take_add_one, h, Option.toList_some, List.foldl_append]
  rfl
theorem rd_source {K : PySem.W.Frag} {te ta : TE} (h1 : Rd K te xMixF) (h2 : Rd K ta xAbsF) {a : Addr} {ns : List Int} {H : Hp} {D : Ends} (ha : SqL K H a (ns.map V.int)) (hl : ns.length ≤ 63)
    (q : ∀ p l H', H p = none → H l = none → Same H H' → SrcR p H' (some (srcOf ns)) [p, l] → D.rt (.ref p) H') : tSource K te ta D [some (.ref a), none, none] H := by
  have it : ∀ (i : Nat) (H' : Hp) (x : V) (Hn : Hp), Same H H' → (Itl K a).yld i H' x Hn → i < ns.length → ∃ c, ns[i]? = some c ∧ x = .int c ∧ Hn = H' := fun i H' x Hn m y hi => by
    obtain ⟨e, y⟩ := y
    have := y _ (sqL_same ha m)
    rw [List.getElem?_map, List.getElem?_eq_getElem hi] at this
    exact ⟨ns[i], List.getElem?_eq_getElem hi, by simpa using this.symm, e⟩
  have go : ∀ (i : Nat) (H' : Hp), Same H H' → i < ns.length → (Itl K a).go i H' := fun i H' m hi => ⟨_, .int ns[i], sqL_same ha m, by rw [List.getElem?_map, List.getElem?_eq_getElem hi]; rfl⟩
  have stop : ∀ (i : Nat) (H' : Hp), Same H H' → ns.length ≤ i → (Itl K a).stop i H' := fun i H' m hi => ⟨_, sqL_same ha m, by rw [List.length_map]; exact hi⟩
  show tFor (iList K (tVar 0)) (gName 2) (tAsg te (gName 1)) _ [some (.ref a), some (.int 11), none] H
  refine ⟨.ref a, rfl, a, rfl, ⟨_, ha⟩, fun i m σ H' => m = ns.length - i ∧ i ≤ ns.length ∧ Same H H' ∧ ∃ c2, σ = [some (.ref a), some (.int ((ns.take i).foldl mixStep 11)), c2], ⟨ns.length, rfl, Nat.zero_le _, Same.refl _, none, rfl⟩, ?_⟩
  rintro i m σ H1 ⟨rfl, hi, sm, c2, rfl⟩
  by_cases hlt : i < ns.length
  · refine .inr ⟨go i H1 sm hlt, fun σ' H' => Same H H' ∧ ∃ c2, σ' = [some (.ref a), some (.int ((ns.take (i + 1)).foldl mixStep 11)), c2], fun σ' H' ⟨y1, y2⟩ => ⟨ns.length - (i + 1), by omega, rfl, hlt, y1, y2⟩, fun x Hn y => ?_⟩
    obtain ⟨c, e1, rfl, rfl⟩ := it i H1 x Hn sm y hlt
    show te [some (.ref a), some (.int ((ns.take i).foldl mixStep 11)), some (.int c)] Hn _
    refine h1 0 [] (fun _ => True) Hn _ _ none _ _ _ none (sr3 (b := true) fun _ => rfl) (fmix _ c) fun v H2 B qq => ?_
    have hv : Vw K 0 H2 v (.int _) B := qq.vw
    cases hv
    refine ⟨sm.trans qq.mv.same, some (.int c), ?_⟩
    rw [take_foldl ns i c e1]
    rfl
  · have e0 : i = ns.length := by omega
    subst e0
    refine .inl ⟨stop _ H1 sm (Nat.le_refl _), ?_⟩
    rw [List.take_length]
    show tDisp _ [some (.ref a), some (.int (ns.foldl mixStep 11)), c2] H1 D.rt
    intro p hp
    have sp : Same H (upd H1 p (.dK [])) := sm.trans (same_new hp)
    unfold tPairs tC tRevL tLc iList tVar
    dsimp only
    refine ⟨.ref a, rfl, a, rfl, ⟨_, sqL_same ha sp⟩, fun Dl hD => ?_⟩
    have Dp : Dl ≠ p := fun z => by rw [z, upd_same] at hD; cases hD
    have hD1 : H1 Dl = none := by rw [upd_ne Dp] at hD; exact hD
    have hsl := sizeLine_eq
    refine ⟨fun i m H' => m = ns.length - i ∧ i ≤ ns.length ∧ Same (upd H1 p (.dK [])) H' ∧ H' Dl = some (.lst ((ns.take i).map fun c => V.int (absI c))), ⟨ns.length, rfl, Nat.zero_le _, same_new hD, by rw [upd_same]; rfl⟩, ?_⟩
    rintro i m H2 ⟨rfl, hi, s2, d2⟩
    by_cases hlt : i < ns.length
    · refine .inr ⟨go i H2 (sp.trans s2) hlt, fun H' => Same (upd H1 p (.dK [])) H' ∧ H' Dl = some (.lst ((ns.take (i + 1)).map fun c => V.int (absI c))), fun H' ⟨y1, y2⟩ => ⟨ns.length - (i + 1), by omega, rfl, hlt, y1, y2⟩, fun x Hn y => ?_⟩
      obtain ⟨c, e1, rfl, rfl⟩ := it i H2 x Hn (sp.trans s2) y hlt
      refine ⟨rfl, ?_⟩
      unfold tYes
      dsimp only
      rw [if_pos rfl]
      show ta [some (.ref a), some (.int (ns.foldl mixStep 11)), some (.int c)] Hn _
      refine h2 0 [] (fun _ => True) Hn _ _ none _ _ _ none (sr3 (b := false) (m := 0) fun z => nomatch z) (fabs c none) fun v H3 B qq => ?_
      have hv : Vw K 0 H3 v (.int _) B := qq.vw
      cases hv
      have s3 := qq.mv.same
      refine ⟨_, s3 _ _ d2, by rw [List.length_map, List.length_take]; omega, fun b o e => ?_, ?_⟩
      · by_cases z : b = Dl
        · subst z; rw [hD] at e; cases e
        · rw [upd_ne z]; exact s3 _ _ (s2 _ _ e)
      · rw [upd_same, List.take_add_one, e1, Option.toList_some, List.map_append]
        rfl
    · have e0 : i = ns.length := by omega
      subst e0
      refine .inl ⟨stop _ H2 (sp.trans s2) (Nat.le_refl _), ?_⟩
      rw [List.take_length] at d2
      refine ⟨Dl, _, rfl, SqL.of d2, fun l hl2 => ?_⟩
      have s3 : Same (upd H1 p (.dK [])) (upd H2 l (.lst (ns.map fun c => V.int (absI c)).reverse)) := s2.trans (same_new hl2)
      have lp : l ≠ p := fun z => by
        have := s2 p _ upd_same
        rw [← z, hl2] at this
        cases this
      have hl1 : H l = none := by
        cases z : H l with
        | none => rfl
        | some o =>
          have := s2 _ _ (sp _ _ z)
          rw [hl2] at this
          cases this
      have hp1 : H p = none := by
        cases z : H p with
        | none => rfl
        | some o =>
          have := sm _ _ z
          rw [hp] at this
          cases this
      refine ⟨_, rfl, s3 _ _ upd_same, srcK l (srcOf ns), rfl, (by show 4 ≤ 15; decide), ?_⟩
      refine q p l _ hp1 hl1 (fun b o e => ?_) ⟨l, ?_, ?_, lp, rfl⟩
      · have bp : b ≠ p := fun z => by rw [z, hp1] at e; cases e
        rw [upd_ne bp]
        exact s3 _ _ (sp _ _ e)
      · rw [upd_same]
        rfl
      · rw [upd_ne lp, upd_same]
        show some (HO.lst (ns.map fun c => V.int (absI c)).reverse) = some (HO.lst (List.map V.int (ns.map absI).reverse))
        rw [List.map_reverse, List.map_map]
        rfl
end DL

set_option Elab.async false
set_option linter.all false
set_option maxRecDepth 100000
set_option maxHeartbeats 1000000
namespace DL
open PySem PySem.Spec PyProof.Rows L2

/-! ### the law's own call: nothing is being shown there (repr may be asked) -/
section
variable {P : Program} {w : World} {K : PySem.W.Frag} {mg : Str → Option Value}
/-- a def of one parameter, called where no guard stands -/
theorem call_bare {base : Heap} {k : Nat} {f : Addr} {nm ql y : Str} {args : Arguments} {bd : List Stmt} {sc : Scope} {u1 u2 u3 u4 u5 u6 u7 : Value} {n1 n2 : Option Addr} {sl : Array (Option Value)} {N : List Str}
    (look : K.lookup f = some ⟨u7, n2, .func (PySem.W.fnOf nm ql args bd sc u1 u2 u3 u4 n1 u5 u6), sl⟩) (code : PySem.W.codeIn K u5 ql = true) (SC : FnScope N [y] sc)
    {A : Around} {s : Shared} {H : Hp} {v : V} {u : Value} {Q : VK} {E : XK} (room : Room (k + 1) A) (en : Env0 P w K mg base A [] s H)
    (bnd : BindsTo s (PySem.W.fnOf nm ql args bd sc u1 u2 u3 u4 n1 u5 u6) ⟨[u], []⟩ [(y, u)]) (rel : RelV v u)
    (go : ∃ t, PSs (cxOf CX0 P w K mg base N ql sc f u5 A [] s H E) bd t ∧ t { nx := fun _ H' => Q .non H', rt := Q } (start N [v]) H) :
    codeAny (model P w) A (.call (.ref f) ⟨[u], []⟩) (CR CX0 [] P w H s Q E) s := by
  have inK := en.mod.kin.keeps fun b o z => (en.bs b o z).1
  have free := en.mod.nolimit.keeps fun b o z => (en.bs b o z).1
  have kinds : ∀ z ∈ [(y, u)], sc.names.lookup z.1 = some .local ∨ (sc.names.lookup z.1 = some .cell ∧ ((cellsFrom (s.heap.objs.size + 1) sc.names []).lookup z.1).isSome = true) := by
    intro z hz
    rw [List.mem_singleton.mp hz]
    rcases SC.par y (List.mem_singleton.mpr rfl) with q | q
    · exact .inl q
    · exact .inr ⟨q, PySem.W.cellsFrom_some _ _ _ (.inl q)⟩
  refine codeAny_call_function room.depth (inK _ _ look) rfl SC.co SC.gen rfl (PySem.W.codeRec_of inK code) (bnd _ _ _ _ ?_)
  refine wpAny_newFunctionEnv_cells SC.kind kinds fun env eq s2 en2 => ?_
  subst eq
  refine ⟨free.keeps en2.toInCall.keep, codeAny_func ?_⟩
  obtain ⟨t, pt, qt⟩ := go
  have J0 : Inv (cxOf CX0 P w K mg base N ql sc f u5 A [] s H E) [] (start N [v]) H s2 := inv_start (ps := [y]) (us := [u]) SC room.hd en rfl (.cons rel .nil) en2
  refine wpAny_mono (pt.run [] s2 (start N [v]) H _ J0 qt) (fun fl s3 q => ?_) fun _ _ q => q
  cases fl with
  | ret z =>
    obtain ⟨x, σ, H3, J, r, q⟩ := q
    exact ⟨x, H3, J.os, J.bare, J.base, J.hok, r, q⟩
  | next =>
    obtain ⟨σ, H3, J, q⟩ := q
    exact ⟨.non, H3, J.os, J.bare, J.base, J.hok, rfl, q⟩
  | brk => exact q.elim fun _ q => q.elim fun _ q => False.elim q.2
  | cont => exact q.elim fun _ q => q.elim fun _ q => False.elim q.2
/-- what a law's def answers, from an abstract heap with the script alone -/
def LawRuns (P : Program) (w : World) (K : PySem.W.Frag) (mg : Str → Option Value) (f : Addr) (most : Nat) : Prop :=
  ∀ (base : Heap) (s : Shared) (H : Hp) (a : Addr) (ns : List Int), K.In base → base.Ns mainGlobals mg → Env0 P w K mg base callerA [] s H → Only H → SqL K H a (ns.map V.int) → ns.length ≤ most →
    codeAny (model P w) callerA (.call (.ref f) ⟨[.ref a], []⟩) (CR CX0 [] P w H s (fun v _ => v = .bl true) fun _ _ _ => False) s
theorem law_bare {mb : Str → Option Value} {f a : Addr} {s : Shared} {vs : List Value} {ns : List Int} {most : Nat} (inK : K.In s.heap) (hns : s.heap.Ns mainGlobals mg) (hb : s.heap.Ns builtinsNs mb) (hbb : ∀ x : Str, x ≠ "__name__" → mb x = bootBuiltins x)
    (lim : s.heap.NoLimit) (gens : s.gens = #[]) (obj : s.heap.get? a = some { cls := .type "list", data := .seq vs.toArray }) (nums : IntsAre vs ns) (short : ns.length ≤ sizeLine) (few : ns.length ≤ most) (L : LawRuns P w K mg f most) :
    codeAny (model P w) callerA (.call (.ref f) ⟨[.ref a], []⟩) (fun r s' => r = .ok (.ret (.bool true)) ∧ OldK s.heap s'.heap ∧ s'.os = s.os ∧ AllBare s'.gens) s := by
  have rel := vals_ints nums
  have same : vs.length = ns.length := nums.length
  suffices core : ∀ H : Hp, Only H → SqL K H a (ns.map V.int) → HOk P w H s.heap → (∀ b u, H b = some u → b = a ∧ K.lookup a = none) →
      codeAny (model P w) callerA (.call (.ref f) ⟨[.ref a], []⟩) (fun r s' => r = .ok (.ret (.bool true)) ∧ OldK s.heap s'.heap ∧ s'.os = s.os ∧ AllBare s'.gens) s by
    cases lk : K.lookup a with
    | some o =>
      have e := inK a o lk
      rw [obj] at e
      cases e
      exact core (fun _ => none) (fun _ => .inl rfl) (.inr ⟨_, vs.toArray, _, lk, rfl, rfl, rfl, by rw [List.size_toArray, same]; exact short, by simpa using rel⟩) (fun b u z => by cases z) fun b u z => by cases z
    | none =>
      have at1 : ∀ {b : Addr} {u : HO}, (if b = a then some (HO.frz { cls := .type "list", data := .seq vs.toArray } (.lst (ns.map V.int))) else none) = some u → b = a ∧ u = HO.frz { cls := .type "list", data := .seq vs.toArray } (.lst (ns.map V.int)) := fun {b u} z => by
        split at z
        · rename_i e; cases z; exact ⟨e, rfl⟩
        · cases z
      refine core (fun b => if b = a then some (HO.frz { cls := .type "list", data := .seq vs.toArray } (.lst (ns.map V.int))) else none) (fun b => ?_) (.inl (.inr ⟨_, if_pos rfl⟩)) (fun b u z => ?_) fun b u z => ⟨(at1 z).1, lk⟩
      · by_cases e : b = a
        · exact .inr ⟨_, _, if_pos e⟩
        · exact .inl (if_neg e)
      · obtain ⟨rfl, rfl⟩ := at1 z
        exact ⟨obj, by rw [List.length_map]; exact short, vs, _, rel, obj⟩
  intro H only sq ok own
  have low : ∀ {b : Addr} {o : Obj}, s.heap.get? b = some o → H b = none → (hidT s.heap H).get? b = some o := fun z n => hidT_get z n
  have plain : ∀ {b : Addr} {o : Obj} {es : Array DictEntry} {n : Nat}, s.heap.get? b = some o → o.data = .dict es n → H b = none := by
    intro b o es n z d
    cases q : H b with
    | none => rfl
    | some u =>
      rw [(own b u q).1, obj] at z
      cases z
      cases (show Data.seq vs.toArray _ = Data.dict es n from d)
  have space : ∀ {b : Addr} {m : Str → Option Value}, s.heap.Ns b m → (hidT s.heap H).Ns b m := fun ⟨o, es, n, z, d, r⟩ => ⟨o, es, n, low z (plain z d), d, r⟩
  have kin : K.In (hidT s.heap H) := fun b o z => low (inK b o z) (by
    cases q : H b with
    | none => rfl
    | some u =>
      obtain ⟨e, n⟩ := own b u q
      rw [e, n] at z
      cases z)
  have en : Env0 P w K mg (hidT s.heap H) callerA [] s H := by
    refine ⟨rfl, ⟨kin, space hns, ⟨mb, space hb, hbb⟩, ?_⟩, fun b o z => of_hidT z, Nat.le_of_eq (hidT_size _ _), trivial, fun b m => ?_, ok, .of_eq gens⟩
    · obtain ⟨mc, y1, y2⟩ := lim
      exact ⟨mc, space y1, y2⟩
    · exact absurd (show b ∈ ([] : List Addr) from m) List.not_mem_nil
  refine codeAny_mono (L _ s H a ns kin (space hns) en only sq few) fun r s' q => ?_
  match r, q with
  | .error e, q => exact False.elim q
  | .ok .next, q => exact False.elim q
  | .ok .brk, q => exact False.elim q
  | .ok .cont, q => exact False.elim q
  | .ok (.ret u), ⟨v, H', q1, q2, un, ok', rv, q⟩ =>
    have q : v = .bl true := q
    subst q
    obtain rfl : u = Value.bool true := rv
    refine ⟨rfl, OldK.of_keep fun b o z => ?_, q1, q2⟩
    cases hb : H b with
    | none => exact un.keep b o z hb (fun m => absurd (show b ∈ ([] : List Addr) from m) List.not_mem_nil) List.not_mem_nil
    | some u =>
      rcases only b with y | ⟨ob, xs, y⟩
      · rw [hb] at y; cases y
      · have y2 := un.frzs b ob _ y
        have e1 := (ok b _ y).1
        have e2 := (ok' b _ y2).1
        rw [z] at e1
        cases e1
        exact e2
end
/-- the goal behind k_head, from the law's run -/
theorem walk_bare {l : PySem.W.OpenLaw} {n : Nat} {q : Program} {loose : List Str} {XP : (Str → Option Value) → Heap → Prop} {YP : World → Heap → Prop} {d : DefRec} {K : Params → PySem.W.Frag} (many : l.most = some n) (fits : n ≤ sizeLine) (plain : d.params.defaults = [])
    (inK : ∀ (w : World) (h : Heap), YP w h → (K w.params).In h) (L : ∀ (w : World) (mg : Str → Option Value) (fa : Addr) (h : Heap), (K w.params).In h → h.Ns mainGlobals mg → mg d.name = some (.ref fa) → LawRuns l.prog w (K w.params) mg fa n) :
    PySem.W.WalkO q loose XP YP l.row.toRowW d [] (fun f vs => PySem.call f vs) :=
  Att.attach_call many plain fun w _ _ mg _ fa _ _ _ _ _ _ _ G Y _ _ _ named obj nums few gens =>
    law_bare (inK w _ Y) G.T.g G.T.b G.T.builtins G.T.nolimit gens obj nums (Nat.le_trans few fits) few (L w mg fa _ (inK w _ Y) G.T.g named)
end DL

set_option Elab.async false
set_option linter.all false
set_option maxRecDepth 100000
set_option maxHeartbeats 1000000
namespace DL
open PySem PySem.Spec PyProof.Rows L2

/-! ### what a body's run gives -/
def endN : Option (Fl × Slots × Option Src) → Option (Bool × T)
  | some (.ret c, _, none) => some (decide (c.k = .own) || c.t.flat, c.t)
  | some (.nx, _, none) => some (true, .non)
  | _ => none
def runN (N : List Str) (b : Sx) : GN := fun us => endN (b (slots0 N us) none)
theorem ans_runN {N : List Str} {b : Sx} {us : List T} {n : Bool} {t : T} (h : runN N b us = some (n, t)) : Ans b (slots0 N us) none n t none := by
  unfold runN endN at h
  split at h
  · rename_i c S e
    cases h
    exact .inl ⟨c, S, e, rfl, fun z => by simpa using z⟩
  · rename_i S e
    cases h
    exact .inr ⟨S, e, rfl⟩
  · cases h
def endS : Option (Fl × Slots × Option Src) → Option (Bool × T × Src)
  | some (.ret c, _, some s) => some (decide (c.k = .own) || c.t.flat, c.t, s)
  | some (.nx, _, some s) => some (true, .non, s)
  | _ => none
def runS (N : List Str) (b : Sx) : GS := fun us s => endS (b (slots0 N us) (some s))
theorem ans_runS {N : List Str} {b : Sx} {us : List T} {s s' : Src} {n : Bool} {t : T} (h : runS N b us s = some (n, t, s')) : Ans b (slots0 N us) (some s) n t (some s') := by
  unfold runS endS at h
  split at h
  · rename_i c S s1 e
    cases h
    exact .inl ⟨c, S, e, rfl, fun z => by simpa using z⟩
  · rename_i S s1 e
    cases h
    exact .inr ⟨S, e, rfl⟩
  · cases h
def endM : Option (Fl × Slots × Option Src) → Option (T × T)
  | some (.ret c, some ⟨.own, t1⟩ :: _, none) => if c.t.flat then some (t1, c.t) else none
  | some (.nx, some ⟨.own, t1⟩ :: _, none) => some (t1, .non)
  | _ => none
def runM (N : List Str) (b : Sx) : GO := fun t0 us => endM (b (slotsM N t0 us) none)
theorem ans_runM {N : List Str} {b : Sx} {t0 t1 t : T} {us : List T} (h : runM N b t0 us = some (t1, t)) : AnsM b (slotsM N t0 us) t1 t := by
  unfold runM endM at h
  split at h
  · rename_i c t2 S e
    split at h
    · rename_i f
      cases h
      exact .inl ⟨c, _, e, rfl, f, rfl⟩
    · cases h
  · rename_i t2 S e
    cases h
    exact .inr ⟨_, e, rfl, rfl⟩
  · cases h
/-! ### a def, a method of the program -/
structure Def1 (K : PySem.W.Frag) (mg : Str → Option Value) (x : Str) (st : Stmt) (ps : List Str) : Prop where
  ex : ∃ f fd, Fun K x x st f fd ∧ mg x = some (.ref f) ∧ Binds K fd ps []
structure Def2 (K : PySem.W.Frag) (C : Addr) (x ql : Str) (st : Stmt) (ps : List Str) : Prop where
  ex : ∃ f fd, Fun K x ql st f fd ∧ Meth K C x f ∧ Binds K fd ps []
structure Def3 (K : PySem.W.Frag) (mg : Str → Option Value) (C : Addr) (x ql cx : Str) (st : Stmt) (ps : List Str) : Prop where
  ex : ∃ f fd, Fun K x ql st f fd ∧ Mk K C f ∧ Binds K fd ps [] ∧ mg cx = some (.ref C)
section
variable {P : Program} {w : World} {K : PySem.W.Frag} {mg : Str → Option Value} {base : Heap}
/-- a body's derivation, at every call -/
abbrev Den (P : Program) (w : World) (K : PySem.W.Frag) (mg : Str → Option Value) (base : Heap) (N : List Str) (qual : Str) (st : Stmt) (k : Nat) (pn : Bool) (b : Sx) : Prop :=
  ∀ (f : Addr) (cdv : Value) (A : Around) (outer : List Env) (s : Shared) (H : Hp) (E : XK), Room k (A.deeper (envOfC qual (defScope st) s.heap.objs.size f cdv)) → ∃ t, DSs K (cxOf CX0 P w K mg base N qual (defScope st) f cdv A outer s H E).nox pn (defBody st) t b
theorem fnd_run {x : Str} {st : Stmt} {N ps : List Str} {k m : Nat} {b : Sx} (D : Def1 K mg x st ps) (S : FnScope N ps (defScope st)) (hm : ps.length = m) (hd : Den P w K mg base N x st k false b) : FnD P w K mg base (k + 1) x m (runN N b) := by
  obtain ⟨f, fd, F, m1, B⟩ := D.ex
  exact ⟨⟨f, fd, ps, fn_pure F S hm (hd f) fun us n t h _ => ans_runN h, m1, F.kp, B⟩⟩
theorem fns_run {x : Str} {st : Stmt} {N ps : List Str} {k m : Nat} {b : Sx} (D : Def1 K mg x st ps) (S : FnScope N ps (defScope st)) (hm : ps.length = m) (hd : Den P w K mg base N x st k false b) : FnS P w K mg base (k + 1) x m (runS N b) := by
  obtain ⟨f, fd, F, m1, B⟩ := D.ex
  exact ⟨⟨f, fd, ps, fn_src F S hm (hd f) fun us s n t s' h _ => ans_runS h, m1, F.kp, B⟩⟩
theorem fnp_run {C : Addr} {x ql : Str} {st : Stmt} {N ps : List Str} {k m : Nat} {b : Sx} (D : Def2 K C x ql st ps) (S : FnScope N ps (defScope st)) (hm : ps.length = m) (hd : Den P w K mg base N ql st k false b) : FnP P w K mg base C (k + 1) x m (runN N b) := by
  obtain ⟨f, fd, F, M, B⟩ := D.ex
  exact ⟨⟨f, fd, ps, fn_pure F S hm (hd f) fun us n t h _ => ans_runN h, M, B⟩⟩
theorem fnm_run {C : Addr} {x ql : Str} {st : Stmt} {N ps : List Str} {k m : Nat} {b : Sx} (D : Def2 K C x ql st ps) (S : FnScope N ps (defScope st)) (hm : ps.length = m + 1) (hd : Den P w K mg base N ql st k true b) : FnM P w K mg base C (k + 1) x m (runM N b) := by
  obtain ⟨f, fd, F, M, B⟩ := D.ex
  exact ⟨⟨f, fd, ps, fn_meth F S hm (hd f) fun t0 us t1 t h _ => ans_runM h, M, B⟩⟩
theorem fni_run {C : Addr} {x ql cx : Str} {st : Stmt} {N ps : List Str} {k m : Nat} {b : Sx} (D : Def3 K mg C x ql cx st ps) (S : FnScope N ps (defScope st)) (hm : ps.length = m + 1) (hd : Den P w K mg base N ql st k true b) : FnI P w K mg base C (k + 1) cx m (runM N b) := by
  obtain ⟨f, fd, F, M, B, mC⟩ := D.ex
  exact ⟨⟨f, fd, ps, fn_meth F S hm (hd f) fun t0 us t1 t h _ => ans_runM h, M, B, mC⟩⟩
/-! ### the source's making, the mixing -/
theorem pss_source {X : Cx} {te ta : TE} {e1 e2 : Expr} {scope : Scope} {p1 p2 p3 p4 p5 p6 p7 p8 : Pos} {x1 x2 x3 x4 : Pos} {q1 q2 q3 q4 q5 q6 q7 q8 q9 q10 q11 q12 : Pos} {j j1 j2 j3 j4 j5 j6 j7 : Nat} (hN : X.N = (["script", "mixed", "cell"] : List Str)) (h1 : DX K X e1 te xMixF)
    (h2 : ∀ (s : Shared) (H : Hp) (C : Addr) (cl : List (Str × Addr)) (fp : List Addr), DX K (X.blk s H scope (compEnvC scope cl C X.env) fp) e2 ta xAbsF) (ok : BlkOk X.N X.env.scope scope [("cell", 2)]) (hK : X.K = K := by rfl)
    (v0 : Vis X.env.scope "script" := by first | exact Or.inl rfl | exact Or.inr (Or.inl rfl) | exact Or.inr (Or.inr rfl)) (v1 : Vis X.env.scope "mixed" := by first | exact Or.inl rfl | exact Or.inr (Or.inl rfl) | exact Or.inr (Or.inr rfl))
    (l1 : X.env.scope.names.lookup ("mixed" : Str) = some .local := by rfl) (l2 : X.env.scope.names.lookup ("cell" : Str) = some .local := by rfl) (lb : ∀ (s : Shared) (H : Hp) (C : Addr) (cl : List (Str × Addr)) (fp : List Addr), (X.blk s H scope (compEnvC scope cl C X.env) fp).env.scope.names.lookup ("cell" : Str) = some .local := by intros; rfl)
    (s1 : swapsWith (.Constant (.int 11) j p2) (some (.Name "mixed" p1)) p3.line X.env = pure false := by rfl) (s2 : swapsWith e1 (some (.Name "mixed" p6)) p7.line X.env = pure false := by rfl) (hc : X.calm = true := by rfl)
    (sf : ∀ x, foldedSetIterable (.Name "script" p5) X.env x = pure x := by intro _; rfl) (sg : ∀ x, foldedSetIterable (.Name "script" q2) X.env x = pure x := by intro _; rfl) (hp : PassesOwn (model X.prog X.w) X.A X.env X.xe := by exact PassesOwn.never) :
    PSs X [.Assign [.Name "mixed" p1] (.Constant (.int 11) j p2) p3, .For (.Name "cell" p4) (.Name "script" p5) [.Assign [.Name "mixed" p6] e1 p7] [] p8,
      .Return (some (.Dict [some (.Constant (.str "cells") j1 x1), some (.Constant (.str "left") j2 x2), some (.Constant (.str "mixed") j3 x3), some (.Constant (.str "turn") j4 x4)]
        [.Subscript (.ListComp e2 [⟨.Name "cell" q1, .Name "script" q2, [], 0⟩] scope q3) (.Slice none none (some (.UnaryOp .USub (.Constant (.int 1) j5 q4) q5)) q6) q7, .Constant (.int 1) j6 q8, .Name "mixed" q9, .Constant (.int 0) j7 q10] q11)) q12]
      (tSource K te ta) ∧ Rd K te xMixF ∧ Rd K ta xAbsF := by
  have nd : X.N.Nodup := by rw [hN]; decide +kernel
  have n0 : X.N[0]? = some ("script" : Str) := by rw [hN]; rfl
  have n1 : X.N[1]? = some ("mixed" : Str) := by rw [hN]; rfl
  have n2 : X.N[2]? = some ("cell" : Str) := by rw [hN]; rfl
  refine ⟨?_, h1.rd, (h2 {} (fun _ => none) 0 [] []).rd⟩
  subst hK
  exact pss_cons (ps_set (i := 1) nd n1 (.inl l1) pe_int s1 (.inr l1))
    (pss_cons (ps_for hp hc (pi_list (pe_var n0 v0)) (pg_name (i := 2) nd n2 (.inl l2) (.inr l2)) (pss_one (ps_set (i := 1) nd n1 (.inl l1) h1.pe s2 (.inr l1))) sf)
    (pss_one (ps_ret (pe_disp (pps_cons pe_str (pe_revL (pe_lc (own := [("cell", 2)]) (g := gName 2) (tt := tYes) hc nd (pi_list (pe_var n0 v0)) ok
        (fun s H C cl fp => pg_name (i := 2) nd n2 (.inl (lb s H C cl fp)) (.inr (lb s H C cl fp))) (fun _ _ _ _ _ => pts_nil) (fun s H C cl fp => (h2 s H C cl fp).pe) sg))
      (pps_cons pe_str pe_int (pps_cons pe_str (pe_var n1 v1) (pps_cons pe_str pe_int pps_nil)))) rfl rfl (by simp) (by show 4 ≤ 15; decide)))))
end
/-! ### the law's body -/
def slotsL (N : List Str) : Slots := none :: some ⟨.shr, .src⟩ :: List.replicate (N.length - 2) none
theorem sr_law {K : PySem.W.Frag} {N : List Str} (hN : 2 ≤ N.length) {a p l : Addr} {H : Hp} {s : Src} (h : SrcR p H (some s) [p, l]) : SR K p [p, l] (fun _ => True) H ((L2.start N [.ref a]).set 1 (some (.ref p))) (slotsL N) (some s) fun _ => [] := by
  refine ⟨?_, fun i d hd => ?_, fun i t hd => List.nodup_nil, fun i j t d hd hj n a ma => absurd ma List.not_mem_nil, h, fun i d hd a ma => absurd ma List.not_mem_nil, fun i d hd a ma => trivial, fun a _ => trivial⟩
  · rw [List.length_set]
    unfold L2.start slotsL
    simp only [List.length_append, List.length_map, List.length_cons, List.length_nil, List.length_replicate]
    omega
  · match i, hd with
    | 0, hd => cases hd
    | 1, hd =>
      cases hd
      refine ⟨(fun z => nomatch z), .ref p, ?_, .src⟩
      rw [List.getElem?_set_self]
      unfold L2.start
      simp only [List.length_append, List.length_map, List.length_cons, List.length_nil, List.length_replicate]
      omega
    | i + 2, hd =>
      unfold slotsL at hd
      rw [List.getElem?_cons_succ, List.getElem?_cons_succ, List.getElem?_replicate] at hd
      split at hd <;> simp at hd
theorem law_runs {P : Program} {w : World} {K : PySem.W.Frag} {mg : Str → Option Value} {f : Addr} {fd : FuncData} {x : Str} {st : Stmt} {rest : List Stmt} {N : List Str} {k : Nat} {b : Sx} {p1 p2 p3 p4 p5 : Pos}
    (F : Fun K x x st f fd) (SC : FnScope N ["script"] (defScope st)) (room : Room (k + 1) callerA) (hN : N[0]? = some ("script" : Str) ∧ N[1]? = some ("source" : Str) := by exact ⟨rfl, rfl⟩)
    (body : defBody st = .Assign [.Name "source" p1] (.Call (.Name "_law_source" p2) [.Name "script" p3] [] p4) p5 :: rest) (bnd : ∀ (s : Shared) (u : Value), BindsTo s fd ⟨[u], []⟩ [("script", u)])
    (first : ∀ base : Heap, K.In base → base.Ns mainGlobals mg → ∀ (cdv : Value) (s : Shared) (H : Hp) (E : XK), ∃ t, PS (cxOf CX0 P w K mg base N x (defScope st) f cdv callerA [] s H E).nox (.Assign [.Name "source" p1] (.Call (.Name "_law_source" p2) [.Name "script" p3] [] p4) p5) (tAsg (tCall (spSrc K) [] E0 (tCons (tVar 0) tNil)) (gName 1)) ∧
      DSs K (cxOf CX0 P w K mg base N x (defScope st) f cdv callerA [] s H E).nox false rest t b)
    (sem : ∀ ns : List Int, ns.length ≤ 63 → ∃ k S' e', b (slotsL N) (some (srcOf ns)) = some (.ret ⟨k, .bl true⟩, S', e')) : LawRuns P w K mg f 63 := by
  intro base s H a ns kin ns1 en only sq few
  obtain ⟨oc, od, kV, doc, pm, an, cdv, ct, osl, rfl, lk, hcd⟩ := F.ex
  refine call_bare (v := V.ref a) lk hcd SC room en (bnd s (.ref a)) rfl ?_
  obtain ⟨t, h1, h2⟩ := first base kin ns1 cdv s H fun _ _ _ => False
  refine ⟨tSeq (tAsg (tCall (spSrc K) [] E0 (tCons (tVar 0) tNil)) (gName 1)) t, ?_, ?_⟩
  · rw [body]
    exact (pss_cons h1 h2.ps).nox
  · have at0 : (L2.start N [V.ref a])[0]? = some (some (.ref a)) := by
      unfold L2.start
      rfl
    refine ⟨.ref a, at0, a, ns, rfl, sq, few, fun p l H' hp hl sm sr => ?_⟩
    have two : 2 ≤ N.length := by
      have := hN.2
      have := (List.getElem?_eq_some_iff.mp this).1
      omega
    obtain ⟨kd, S', e', hb⟩ := sem ns few
    refine h2.rd p [p, l] _ H' _ (slotsL N) _ _ _ _ S' e' (sr_law two sr) hb fun H2 σ2 A2 v B r g rv => ?_
    have hv : Vw K p H2 v (.bl true) B := rv.vw
    cases hv
    rfl
end DL

set_option Elab.async false
set_option linter.all false
set_option maxRecDepth 100000
set_option maxHeartbeats 1000000
namespace DL
open PySem PySem.Spec PyProof.Rows L2
/-! ### the facts from what the top has written -/
section
variable {K : PySem.W.Frag} {mg : Str → Option Value} {h : Heap} {C f : Addr} {x ql cx : Str} {st : Stmt} {ps : List Str} {oc kV doc pm cdv ct : Value} {od an : Option Addr} {osl : Array (Option Value)}
abbrev Bnd (x ql : Str) (st : Stmt) (ps : List Str) : Prop := ∀ (kV doc pm : Value) (an : Option Addr) (cdv ct : Value) (us : List Value), us.length = ps.length → bindArgs (PySem.W.fnOf x ql (defArgs st) (defBody st) (defScope st) .none kV doc pm an cdv ct) ⟨us, []⟩ = pure (ps.zip us)
theorem def1_mk (X : K.In h) (G : h.Ns mainGlobals mg) (a : PySem.W.nsIn K mainGlobals x = some (some (.ref f))) (l : K.lookup f = some ⟨oc, od, .func (PySem.W.fnOf x x (defArgs st) (defBody st) (defScope st) .none kV doc pm an cdv ct), osl⟩) (c : PySem.W.codeIn K cdv x = true)
    (k : PySem.W.keepIn K (.ref f) = true) (b : Bnd x x st ps) : Def1 K mg x st ps := ⟨⟨f, _, fun_mk l c k, PySem.W.mg_of X G a, (fun_mk l c k).binds b⟩⟩
theorem def2_mk (a : PySem.W.findIn K (.ref C) x = some (some (.ref f))) (i : PySem.W.isFn K (.ref f) = true) (l : K.lookup f = some ⟨oc, od, .func (PySem.W.fnOf x ql (defArgs st) (defBody st) (defScope st) .none kV doc pm an cdv ct), osl⟩) (c : PySem.W.codeIn K cdv ql = true)
    (k : PySem.W.keepIn K (.ref f) = true) (b : Bnd x ql st ps) : Def2 K C x ql st ps := ⟨⟨f, _, fun_mk l c k, ⟨a, i, k⟩, (fun_mk l c k).binds b⟩⟩
theorem def3_mk (X : K.In h) (G : h.Ns mainGlobals mg) (z : PySem.W.nsIn K mainGlobals cx = some (some (.ref C))) (m : PySem.W.makesIn K C = true) (kc : PySem.W.keepIn K (.ref C) = true) (a : PySem.W.findIn K (.ref C) "__init__" = some (some (.ref f))) (i : PySem.W.isFn K (.ref f) = true)
    (l : K.lookup f = some ⟨oc, od, .func (PySem.W.fnOf x ql (defArgs st) (defBody st) (defScope st) .none kV doc pm an cdv ct), osl⟩) (c : PySem.W.codeIn K cdv ql = true)
    (k : PySem.W.keepIn K (.ref f) = true) (b : Bnd x ql st ps) : Def3 K mg C x ql cx st ps := ⟨⟨f, _, fun_mk l c k, ⟨m, a, i, kc⟩, (fun_mk l c k).binds b, PySem.W.mg_of X G z⟩⟩
theorem const_mk {v : Int} {t : Tok} (X : K.In h) (G : h.Ns mainGlobals mg) (a : PySem.W.nsIn K mainGlobals x = some (some (.int v t))) : ∃ t, mg x = some (.int v t) := ⟨t, PySem.W.mg_of X G a⟩
theorem noattr_mk (a : PySem.W.findIn K (.ref C) x = some none) : NoAttr K C x := a
end
end DL

set_option Elab.async false
set_option linter.all false
set_option maxRecDepth 100000
set_option maxHeartbeats 2000000
namespace DL
open PySem PySem.Spec PyProof.Rows L2
def topS (i : Nat) : Stmt := PySem.Challenge.pw_loopsonplates_k54_slides_by_own_going.main.body.getD i (.Pass ⟨0, 0, 0, 0⟩)
abbrev s_not_long : Stmt := topS 6
theorem sc_not_long : FnScope ["word"] ["word"] (defScope s_not_long) := ⟨rfl, rfl, rfl, by decide +kernel, rfl, by decide +kernel, by decide +kernel⟩
def b_not_long   : Sx := (sSeq (sIf (bVal (xBin gGt (xCall gLen (aCons (xName 0) aNil)) (xC (.int 400)))) (fun _ _ => none) sNx) (sRetN 0))
set_option maxHeartbeats 8000000 in
theorem den_not_long {P : Program} {w : World} {K : PySem.W.Frag} {mg : Str → Option Value} {base : Heap}   (m_len : mg "len" = none) (m_MOST_LETTERS : ∃ t, mg "MOST_LETTERS" = some (.int 400 t))    {qual : Str} {f : Addr} (cdv : Value) (A : Around) (outer : List Env) (s : Shared) (H : Hp) (E : XK) (hr : Room 0 (A.deeper (envOfC qual (defScope s_not_long) s.heap.objs.size f cdv)))  :
    ∃ t, DSs K (cxOf CX0 P w K mg base ["word"] qual (defScope s_not_long) f cdv A outer s H E).nox false (defBody s_not_long) t (b_not_long) := by
  have hnd : (["word"] : List Str).Nodup := by decide +kernel
  exact ⟨_, (ds_cons (ds_if (dt_cmp op_gt o_gt (dx_callB call_len_seq on_len m_len rfl boot_len (da_cons (dx_name 0) da_nil)) (dx_glob (v := .int 400) rfl m_MOST_LETTERS.choose_spec ⟨_, rfl⟩ (fun _ _ => .int 400)) (by first | rfl | exact nobehind _ (by decide) (by decide))) (ds_one ds_never) ds_nil) (ds_one (ds_retN 0)))⟩
def g_not_long (C_Sliding : Addr) : GN := runN ["word"] (b_not_long)
abbrev s_word_low : Stmt := topS 7
theorem sc_word_low : FnScope ["letters", "found", "letter"] ["letters"] (defScope s_word_low) := ⟨rfl, rfl, rfl, by decide +kernel, rfl, by decide +kernel, by decide +kernel⟩
def b_word_low   : Sx := (sSeq (sSet 1 (xLst aNil)) (sSeq (sFor (iSeq (xName 0)) (gN 2) (sIf (bAnd (bVal (xBin (gEqX true) (xName 1) (xLst aNil))) (bVal (xBin (gEqX false) (xBin gSubX (xName 1) (xUn gNeg (xC (.int 1)))) (xUn gNeg (xName 2))))) (sMth 1 hPop aNil) (sMth 1 hApp (aCons (xName 2) aNil)))) (sRet (xCall gTuple (aCons (xName 1) aNil)))))
set_option maxHeartbeats 8000000 in
theorem den_word_low {P : Program} {w : World} {K : PySem.W.Frag} {mg : Str → Option Value} {base : Heap}   (m_tuple : mg "tuple" = none)     {qual : Str} {f : Addr} (cdv : Value) (A : Around) (outer : List Env) (s : Shared) (H : Hp) (E : XK) (hr : Room 0 (A.deeper (envOfC qual (defScope s_word_low) s.heap.objs.size f cdv)))  :
    ∃ t, DSs K (cxOf CX0 P w K mg base ["letters", "found", "letter"] qual (defScope s_word_low) f cdv A outer s H E).nox false (defBody s_word_low) t (b_word_low) := by
  have hnd : (["letters", "found", "letter"] : List Str).Nodup := by decide +kernel
  exact ⟨_, (ds_cons (ds_set 1 (dx_lst da_nil)) (ds_cons (ds_for (q := false) (di_seq (dx_name 0)) (dg_name 2) (ds_one (ds_if (DW.dt (dw_and (dt_cmp (opr_ne (room_eq hr)) o_neX (dx_name 1) (dx_lst da_nil) (by first | rfl | exact nobehind _ (by decide) (by decide))) (dw_and1 (dt_cmp (opr_eq (room_eq hr)) o_eqX (dx_sub hr (dx_name 1) (dx_un un_neg o_neg dx_int)) (dx_un un_neg o_neg (dx_name 2)) (by first | rfl | exact nobehind _ (by decide) (by decide)))))) (ds_one (ds_mth0 1 PySem.F.slot_list_pop PySem.F.type_list_pop mt_pop lm_pop)) (ds_one (ds_mth 1 PySem.F.slot_list_append PySem.F.type_list_append mt_append lm_app (da_cons (dx_name 2) da_nil)))))) (ds_one (ds_ret (dx_callT call_tupleF on_tuple m_tuple rfl boot_tuple (da_cons (dx_name 1) da_nil))))))⟩
def g_word_low (C_Sliding : Addr) : GN := runN ["letters", "found", "letter"] (b_word_low)
abbrev s_word_undone : Stmt := topS 8
theorem sc_word_undone : FnScope ["word", "letter"] ["word"] (defScope s_word_undone) := ⟨rfl, rfl, rfl, by decide +kernel, rfl, by decide +kernel, by decide +kernel⟩
def b_word_undone   : Sx := (sRet (xCall gTuple (aCons (xLc (iSeqO (xRev (xName 0))) (gN 1) bYes (xUn gNeg (xName 1)) [1]) aNil)))
set_option maxHeartbeats 8000000 in
theorem den_word_undone {P : Program} {w : World} {K : PySem.W.Frag} {mg : Str → Option Value} {base : Heap}   (m_tuple : mg "tuple" = none)     {qual : Str} {f : Addr} (cdv : Value) (A : Around) (outer : List Env) (s : Shared) (H : Hp) (E : XK) (hr : Room 0 (A.deeper (envOfC qual (defScope s_word_undone) s.heap.objs.size f cdv)))  :
    ∃ t, DSs K (cxOf CX0 P w K mg base ["word", "letter"] qual (defScope s_word_undone) f cdv A outer s H E).nox false (defBody s_word_undone) t (b_word_undone) := by
  have hnd : (["word", "letter"] : List Str).Nodup := by decide +kernel
  exact ⟨_, (ds_one (ds_ret (dx_callT call_tupleF on_tuple m_tuple rfl boot_tuple (da_cons (dx_lc (own := [("letter", 1)]) (di_seqO (dx_rev (dx_name 0))) (blkOk_by rfl) (fun _ _ _ _ _ => (dg_name 1)) (fun _ _ _ _ _ => dts_nil) (fun _ _ _ _ _ => (dx_un un_neg o_neg (dx_name 1)))) da_nil))))⟩
def g_word_undone (C_Sliding : Addr) : GN := runN ["word", "letter"] (b_word_undone)
abbrev s_slid_ends : Stmt := topS 10
theorem sc_slid_ends : FnScope ["plate", "place", "is_ahead", "end", "over", "rest", "one"] ["plate", "place", "is_ahead"] (defScope s_slid_ends) := ⟨rfl, rfl, rfl, by decide +kernel, rfl, by decide +kernel, by decide +kernel⟩
def b_slid_ends   : Sx := (sSeq (sAsg (xCall gTup (aCons (xBin gSubX (xName 0) (xName 1)) (aCons (xBin gSubX (xName 0) (xBin gMod (xBin gAdd (xName 1) (xIf (bVal (xName 2)) (xC (.int 1)) (xUn gNeg (xC (.int 1))))) (xCall gLen (aCons (xName 0) aNil)))) aNil))) (gT 2 (gsCons (gN 3) (gsCons (gN 4) gsNil)))) (sSeq (sSet 5 (xLc (iSeqO (xName 0)) (gN 6) (bVal (xBin (gEqX true) (xName 6) (xName 3))) (xName 6) [6])) (sSeq (sMth 5 hIns (aCons (xBin gAdd (xBm gIdx (xName 5) (aCons (xUn gNeg (xName 4)) aNil)) (xIf (bVal (xName 2)) (xC (.int 1)) (xC (.int 0)))) (aCons (xName 3) aNil))) (sRet (xCall gTup (aCons (xCall gTuple (aCons (xName 5) aNil)) (aCons (xName 3) (aCons (xName 4) aNil))))))))
set_option maxHeartbeats 8000000 in
theorem den_slid_ends {P : Program} {w : World} {K : PySem.W.Frag} {mg : Str → Option Value} {base : Heap}   (m_len : mg "len" = none) (m_tuple : mg "tuple" = none)     {qual : Str} {f : Addr} (cdv : Value) (A : Around) (outer : List Env) (s : Shared) (H : Hp) (E : XK) (hr : Room 0 (A.deeper (envOfC qual (defScope s_slid_ends) s.heap.objs.size f cdv)))  :
    ∃ t, DSs K (cxOf CX0 P w K mg base ["plate", "place", "is_ahead", "end", "over", "rest", "one"] qual (defScope s_slid_ends) f cdv A outer s H E).nox false (defBody s_slid_ends) t (b_slid_ends) := by
  have hnd : (["plate", "place", "is_ahead", "end", "over", "rest", "one"] : List Str).Nodup := by decide +kernel
  exact ⟨_, (ds_cons (ds_asg (q := false) (dx_tup (da_cons (dx_sub hr (dx_name 0) (dx_name 1)) (da_cons (dx_sub hr (dx_name 0) (dx_bin op_mod o_mod (dx_bin opr_add o_add (dx_name 1) (dx_if (dt_val (dx_name 2)) dx_int (dx_un un_neg o_neg dx_int))) (dx_callB call_len_seq on_len m_len rfl boot_len (da_cons (dx_name 0) da_nil)))) da_nil))) (dg_tup (dgs_cons (dg_name 3) (dgs_cons (dg_name 4) dgs_nil)))) (ds_cons (ds_setLc 5 (own := [("one", 6)]) (di_seqO (dx_name 0)) (blkOk_by rfl) (fun _ _ _ _ _ => (dg_name 6)) (fun _ _ _ _ _ => (dts_one (dt_cmp (opr_ne (room_eq hr)) o_neX (dx_name 6) (dx_name 3) (by first | rfl | exact nobehind _ (by decide) (by decide))))) (fun _ _ _ _ _ => (dx_name 6)) rfl) (ds_cons (ds_mth 5 PySem.F.slot_list_insert PySem.F.type_list_insert mt_insert lm_ins (da_cons (dx_bin opr_add o_add (dx_idx (dx_name 5) (da_cons (dx_un un_neg o_neg (dx_name 4)) da_nil)) (dx_if (dt_val (dx_name 2)) dx_int dx_int)) (da_cons (dx_name 3) da_nil))) (ds_one (ds_ret (dx_tup (da_cons (dx_callT call_tupleF on_tuple m_tuple rfl boot_tuple (da_cons (dx_name 5) da_nil)) (da_cons (dx_name 3) (da_cons (dx_name 4) da_nil)))))))))⟩
def g_slid_ends (C_Sliding : Addr) : GN := runN ["plate", "place", "is_ahead", "end", "over", "rest", "one"] (b_slid_ends)
abbrev s_end_word : Stmt := topS 11
theorem sc_end_word : FnScope ["end", "over"] ["end", "over"] (defScope s_end_word) := ⟨rfl, rfl, rfl, by decide +kernel, rfl, by decide +kernel, by decide +kernel⟩
def b_end_word   : Sx := (sRet (xIf (bVal (xBin gGt (xName 0) (xC (.int 0)))) (xCall gTup (aCons (xName 1) (aCons (xName 0) aNil))) (xCall gTup (aCons (xUn gNeg (xName 0)) (aCons (xUn gNeg (xName 1)) aNil)))))
set_option maxHeartbeats 8000000 in
theorem den_end_word {P : Program} {w : World} {K : PySem.W.Frag} {mg : Str → Option Value} {base : Heap}        {qual : Str} {f : Addr} (cdv : Value) (A : Around) (outer : List Env) (s : Shared) (H : Hp) (E : XK) (hr : Room 0 (A.deeper (envOfC qual (defScope s_end_word) s.heap.objs.size f cdv)))  :
    ∃ t, DSs K (cxOf CX0 P w K mg base ["end", "over"] qual (defScope s_end_word) f cdv A outer s H E).nox false (defBody s_end_word) t (b_end_word) := by
  have hnd : (["end", "over"] : List Str).Nodup := by decide +kernel
  exact ⟨_, (ds_one (ds_ret (dx_if (dt_cmp op_gt o_gt (dx_name 0) dx_int (by first | rfl | exact nobehind _ (by decide) (by decide))) (dx_tup (da_cons (dx_name 1) (da_cons (dx_name 0) da_nil))) (dx_tup (da_cons (dx_un un_neg o_neg (dx_name 0)) (da_cons (dx_un un_neg o_neg (dx_name 1)) da_nil))))))⟩
def g_end_word (C_Sliding : Addr) : GN := runN ["end", "over"] (b_end_word)
abbrev s_Sliding___init__ : Stmt := inClass (topS 15) 0
theorem sc_Sliding___init__ : FnScope ["self", "plate", "band"] ["self", "plate"] (defScope s_Sliding___init__) := ⟨rfl, rfl, rfl, by decide +kernel, rfl, by decide +kernel, by decide +kernel⟩
def b_Sliding___init__ (C_Sliding : Addr)  : Sx := (sSeq (sAsg (xName 1) (gFld 0 C_Sliding "plate")) (sSeq (sAsg (xLc (iR1 (aCons (xBin gDiv (xCall gLen (aCons (xName 1) aNil)) (xC (.int 2))) aNil)) (gN 2) bYes (xCall gTup (aCons (xBin gAdd (xName 2) (xC (.int 1))) aNil)) [2]) (gFld 0 C_Sliding "words")) (sAsg (xCall gList (aCons (xFld C_Sliding "words" (xName 0)) aNil)) (gFld 0 C_Sliding "backs"))))
set_option maxHeartbeats 8000000 in
theorem den_Sliding___init__ {P : Program} {w : World} {K : PySem.W.Frag} {mg : Str → Option Value} {base : Heap} {C_Sliding : Addr}  (m_len : mg "len" = none) (m_list : mg "list" = none) (m_range : mg "range" = none)  (cl_Sliding : Cls K C_Sliding) (na_Sliding_plate : NoAttr K C_Sliding "plate") (na_Sliding_words : NoAttr K C_Sliding "words") (na_Sliding_backs : NoAttr K C_Sliding "backs")  {qual : Str} {f : Addr} (cdv : Value) (A : Around) (outer : List Env) (s : Shared) (H : Hp) (E : XK) (hr : Room 0 (A.deeper (envOfC qual (defScope s_Sliding___init__) s.heap.objs.size f cdv)))  :
    ∃ t, DSs K (cxOf CX0 P w K mg base ["self", "plate", "band"] qual (defScope s_Sliding___init__) f cdv A outer s H E).nox true (defBody s_Sliding___init__) t (b_Sliding___init__ C_Sliding) := by
  have hnd : (["self", "plate", "band"] : List Str).Nodup := by decide +kernel
  exact ⟨_, (ds_cons (ds_asg (q := false) (dx_name 1) (dg_fld 0 cl_Sliding na_Sliding_plate)) (ds_cons (ds_asg (q := false) (dx_lc (own := [("band", 2)]) (DI.w (di_r1 (da_cons (dx_bin op_fdiv o_div (dx_callB call_len_seq on_len m_len rfl boot_len (da_cons (dx_name 1) da_nil)) dx_int) da_nil) m_range)) (blkOk_by rfl) (fun _ _ _ _ _ => (dg_name 2)) (fun _ _ _ _ _ => dts_nil) (fun _ _ _ _ _ => (dx_tup (da_cons (dx_bin opr_add o_add (dx_name 2) dx_int) da_nil)))) (dg_fld 0 cl_Sliding na_Sliding_words)) (ds_one (ds_asg (q := false) (dx_callT call_list_of on_list m_list rfl boot_list (da_cons (dx_fld cl_Sliding na_Sliding_words (dx_name 0)) da_nil)) (dg_fld 0 cl_Sliding na_Sliding_backs)))))⟩
def g_Sliding___init__ (C_Sliding : Addr) : GO := runM ["self", "plate", "band"] (b_Sliding___init__ C_Sliding)
abbrev s_Sliding_linked : Stmt := inClass (topS 15) 3
theorem sc_Sliding_linked : FnScope ["self", "done", "rest", "k", "one", "late", "j"] ["self", "done"] (defScope s_Sliding_linked) := ⟨rfl, rfl, rfl, by decide +kernel, rfl, by decide +kernel, by decide +kernel⟩
def b_Sliding_linked (C_Sliding : Addr)  : Sx := (sSeq (sSet 2 (xSl gSl (xFld C_Sliding "plate" (xName 0)) (oSome (xName 1)) oNone)) (sSeq (sFor (iEn (xName 2)) (gT 2 (gsCons (gN 3) (gsCons (gN 4) gsNil))) (sSeq (sSet 5 (xBm gIdx (xName 2) (aCons (xUn gNeg (xName 4)) aNil))) (sFor (iR2 (aCons (xBin gAdd (xName 3) (xC (.int 1))) (aCons (xName 5) aNil))) (gN 6) (sIf (bVal (xBin gGt (xBm gIdx (xName 2) (aCons (xUn gNeg (xBin gSubX (xName 2) (xName 6))) aNil)) (xName 5))) (sRet (xCall gTup (aCons (xName 4) (aCons (xBin gSubX (xName 2) (xName 6)) aNil)))) sNx)))) (sRet (xC .non))))
set_option maxHeartbeats 8000000 in
theorem den_Sliding_linked {P : Program} {w : World} {K : PySem.W.Frag} {mg : Str → Option Value} {base : Heap} {C_Sliding : Addr}  (m_range : mg "range" = none) (m_enumerate : mg "enumerate" = none)  (cl_Sliding : Cls K C_Sliding) (na_Sliding_plate : NoAttr K C_Sliding "plate")  {qual : Str} {f : Addr} (cdv : Value) (A : Around) (outer : List Env) (s : Shared) (H : Hp) (E : XK) (hr : Room 0 (A.deeper (envOfC qual (defScope s_Sliding_linked) s.heap.objs.size f cdv)))  :
    ∃ t, DSs K (cxOf CX0 P w K mg base ["self", "done", "rest", "k", "one", "late", "j"] qual (defScope s_Sliding_linked) f cdv A outer s H E).nox false (defBody s_Sliding_linked) t (b_Sliding_linked C_Sliding) := by
  have hnd : (["self", "done", "rest", "k", "one", "late", "j"] : List Str).Nodup := by decide +kernel
  exact ⟨_, (ds_cons (ds_set 2 (dx_sl slr o_sl (dx_fld cl_Sliding na_Sliding_plate (dx_name 0)) (do_some (dx_name 1)) do_none)) (ds_cons (ds_for (q := false) (di_en (dx_name 2) m_enumerate) (dg_tup (dgs_cons (dg_name 3) (dgs_cons (dg_name 4) dgs_nil))) (ds_cons (ds_set 5 (dx_idx (dx_name 2) (da_cons (dx_un un_neg o_neg (dx_name 4)) da_nil))) (ds_one (ds_for (q := false) (di_r2 (da_cons (dx_bin opr_add o_add (dx_name 3) dx_int) (da_cons (dx_name 5) da_nil)) m_range) (dg_name 6) (ds_one (ds_if (dt_cmp op_gt o_gt (dx_idx (dx_name 2) (da_cons (dx_un un_neg o_neg (dx_sub hr (dx_name 2) (dx_name 6))) da_nil)) (dx_name 5) (by first | rfl | exact nobehind _ (by decide) (by decide))) (ds_one (ds_ret (dx_tup (da_cons (dx_name 4) (da_cons (dx_sub hr (dx_name 2) (dx_name 6)) da_nil))))) ds_nil)))))) (ds_one (ds_ret dx_non))))⟩
def g_Sliding_linked (C_Sliding : Addr) : GN := runN ["self", "done", "rest", "k", "one", "late", "j"] (b_Sliding_linked C_Sliding)
abbrev s__law_source : Stmt := topS 18
theorem sc__law_source : FnScope ["script", "mixed", "cell"] ["script"] (defScope s__law_source) := ⟨rfl, rfl, rfl, by decide +kernel, rfl, by decide +kernel, by decide +kernel⟩
set_option maxHeartbeats 8000000 in
theorem ok__law_source {P : Program} {w : World} {K : PySem.W.Frag} {mg : Str → Option Value} {base : Heap} (m_abs : mg "abs" = none) (m_int : mg "int" = none) {f : Addr} {fd : FuncData} (F : Fun K "_law_source" "_law_source" s__law_source f fd) : FnOk P w K mg base CX0 1 f fd ["script"] (spSrc K) := by
  refine F.ok sc__law_source (fun vs H Q E h => ?_) (fun cdv A outer s H vs Q E hr h => ?_)
  · obtain ⟨a, ns, rfl, _⟩ := h
    rfl
  · obtain ⟨a, ns, rfl, ha, hl, q⟩ := h
    have hnd : (["script", "mixed", "cell"] : List Str).Nodup := by decide +kernel
    obtain ⟨te, ta, h0, h1, h2⟩ : ∃ te ta, PSs (cxOf CX0 P w K mg base ["script", "mixed", "cell"] "_law_source" (defScope s__law_source) f cdv A outer s H E).nox (defBody s__law_source) (tSource K te ta) ∧ Rd K te xMixF ∧ Rd K ta xAbsF := ⟨_, _, pss_source rfl (dx_bin op_mod o_mod (dx_callT call_int1 on_int1 m_int rfl boot_int (da_cons (dx_bin opr_add o_add (dx_bin opr_add o_add (dx_bin opr_mul o_mul (dx_name 1) dx_int) (dx_bin opr_mul o_mul (dx_name 2) dx_int)) dx_int) da_nil)) dx_int) (fun _ _ _ _ _ => (dx_callB call_abs on_abs m_abs rfl boot_abs (da_cons (dx_name 2) da_nil))) (blkOk_by rfl)⟩
    exact ⟨_, h0, rd_source h1 h2 ha hl q⟩
abbrev s__law_pick : Stmt := topS 19
theorem sc__law_pick : FnScope ["source", "many", "left", "mixed"] ["source", "many"] (defScope s__law_pick) := ⟨rfl, rfl, rfl, by decide +kernel, rfl, by decide +kernel, by decide +kernel⟩
def b__law_pick   : Sx := (sSeq (sWhile 1000 (bAnd (bVal (xBin gGt (xName 1) (xC (.int 1)))) (bAnd (bVal (xBin gLt (xSrcI 0 Src.left) (xC (.int 2)))) (bVal (xBin gGt (xSrcLen 0) (xC (.int 0)))))) (sSrcPop 0)) (sSeq (sSet 2 (xSrcI 0 Src.left)) (sSeq (sIf (bOr (bVal (xBin gLt (xName 1) (xC (.int 2)))) (bVal (xBin gGt (xName 2) (xC (.int 1))))) (sSeq (sSrcSet 0 (fun s v => { s with left := v }) (xBin gDiv (xName 2) (xCall (gMx2 true) (aCons (xC (.int 1)) (aCons (xName 1) aNil))))) (sRet (xBin gMod (xCall gInt1 (aCons (xName 2) aNil)) (xCall (gMx2 true) (aCons (xC (.int 1)) (aCons (xName 1) aNil)))))) sNx) (sSeq (sSrcSet 0 (fun s v => { s with turn := v }) (xBin gAdd (xSrcI 0 Src.turn) (xC (.int 1)))) (sSeq (sSet 3 (xBin gMod (xCall gInt1 (aCons (xBin gAdd (xSrcI 0 Src.mixed) (xBin gMul (xSrcI 0 Src.turn) (xC (.int 104729)))) aNil)) (xC (.int 998244353)))) (sSeq (sSet 3 (xBin gMod (xCall gInt1 (aCons (xBin gAdd (xBin gMul (xName 3) (xName 3)) (xBin gMul (xSrcI 0 Src.turn) (xC (.int 17)))) aNil)) (xC (.int 2147483647)))) (sSeq (sSrcSet 0 (fun s v => { s with mixed := v }) (xName 3)) (sRet (xBin gMod (xCall gInt1 (aCons (xBin gDiv (xName 3) (xC (.int 16))) aNil)) (xName 1))))))))))
set_option maxHeartbeats 8000000 in
theorem den__law_pick {P : Program} {w : World} {K : PySem.W.Frag} {mg : Str → Option Value} {base : Heap}   (m_len : mg "len" = none) (m_int : mg "int" = none) (m_max : mg "max" = none)     {qual : Str} {f : Addr} (cdv : Value) (A : Around) (outer : List Env) (s : Shared) (H : Hp) (E : XK) (hr : Room 0 (A.deeper (envOfC qual (defScope s__law_pick) s.heap.objs.size f cdv)))  :
    ∃ t, DSs K (cxOf CX0 P w K mg base ["source", "many", "left", "mixed"] qual (defScope s__law_pick) f cdv A outer s H E).nox false (defBody s__law_pick) t (b__law_pick) := by
  have hnd : (["source", "many", "left", "mixed"] : List Str).Nodup := by decide +kernel
  exact ⟨_, (ds_cons (ds_while 1000 (DW.dt (dw_and (dt_cmp op_gt o_gt (dx_name 1) dx_int (by first | rfl | exact nobehind _ (by decide) (by decide))) (dw_and (dt_cmp op_lt o_lt (dx_srcI 0 v_left hr) dx_int (by first | rfl | exact nobehind _ (by decide) (by decide))) (dw_and1 (dt_cmp op_gt o_gt (dx_srcLen 0 hr m_len) dx_int (by first | rfl | exact nobehind _ (by decide) (by decide))))))) (ds_one (ds_srcPop 0 hr))) (ds_cons (ds_set 2 (dx_srcI 0 v_left hr)) (ds_cons (ds_if (DW.dt (dw_or (dt_cmp op_lt o_lt (dx_name 1) dx_int (by first | rfl | exact nobehind _ (by decide) (by decide))) (dw_or1 (dt_cmp op_gt o_gt (dx_name 2) dx_int (by first | rfl | exact nobehind _ (by decide) (by decide)))))) (ds_cons (ds_srcSet 0 p_left (fun _ _ => rfl) hr (dx_bin op_fdiv o_div (dx_name 2) (dx_callB (call_max2 rfl) on_max2 m_max rfl boot_max (da_cons dx_int (da_cons (dx_name 1) da_nil))))) (ds_one (ds_ret (dx_bin op_mod o_mod (dx_callT call_int1 on_int1 m_int rfl boot_int (da_cons (dx_name 2) da_nil)) (dx_callB (call_max2 rfl) on_max2 m_max rfl boot_max (da_cons dx_int (da_cons (dx_name 1) da_nil))))))) ds_nil) (ds_cons (ds_srcSet 0 p_turn (fun _ _ => rfl) hr (dx_bin opr_add o_add (dx_srcI 0 v_turn hr) dx_int)) (ds_cons (ds_set 3 (dx_bin op_mod o_mod (dx_callT call_int1 on_int1 m_int rfl boot_int (da_cons (dx_bin opr_add o_add (dx_srcI 0 v_mixed hr) (dx_bin opr_mul o_mul (dx_srcI 0 v_turn hr) dx_int)) da_nil)) dx_int)) (ds_cons (ds_set 3 (dx_bin op_mod o_mod (dx_callT call_int1 on_int1 m_int rfl boot_int (da_cons (dx_bin opr_add o_add (dx_bin opr_mul o_mul (dx_name 3) (dx_name 3)) (dx_bin opr_mul o_mul (dx_srcI 0 v_turn hr) dx_int)) da_nil)) dx_int)) (ds_cons (ds_srcSet 0 p_mixed (fun _ _ => rfl) hr (dx_name 3)) (ds_one (ds_ret (dx_bin op_mod o_mod (dx_callT call_int1 on_int1 m_int rfl boot_int (da_cons (dx_bin op_fdiv o_div (dx_name 3) dx_int) da_nil)) (dx_name 1)))))))))))⟩
def g__law_pick (C_Sliding : Addr) : GS := runS ["source", "many", "left", "mixed"] (b__law_pick)
abbrev s__law_word_low : Stmt := topS 23
theorem sc__law_word_low : FnScope ["letters", "found", "letter"] ["letters"] (defScope s__law_word_low) := ⟨rfl, rfl, rfl, by decide +kernel, rfl, by decide +kernel, by decide +kernel⟩
def b__law_word_low   : Sx := (sSeq (sSet 1 (xLst aNil)) (sSeq (sFor (iSeq (xName 0)) (gN 2) (sIf (bAnd (bVal (xBin (gEqX true) (xName 1) (xLst aNil))) (bVal (xBin (gEqX false) (xBin gSubX (xName 1) (xUn gNeg (xC (.int 1)))) (xBin gSub (xC (.int 0)) (xName 2))))) (sMth 1 hPop aNil) (sMth 1 hApp (aCons (xName 2) aNil)))) (sRet (xCall gTuple (aCons (xName 1) aNil)))))
set_option maxHeartbeats 8000000 in
theorem den__law_word_low {P : Program} {w : World} {K : PySem.W.Frag} {mg : Str → Option Value} {base : Heap}   (m_tuple : mg "tuple" = none)     {qual : Str} {f : Addr} (cdv : Value) (A : Around) (outer : List Env) (s : Shared) (H : Hp) (E : XK) (hr : Room 0 (A.deeper (envOfC qual (defScope s__law_word_low) s.heap.objs.size f cdv)))  :
    ∃ t, DSs K (cxOf CX0 P w K mg base ["letters", "found", "letter"] qual (defScope s__law_word_low) f cdv A outer s H E).nox false (defBody s__law_word_low) t (b__law_word_low) := by
  have hnd : (["letters", "found", "letter"] : List Str).Nodup := by decide +kernel
  exact ⟨_, (ds_cons (ds_set 1 (dx_lst da_nil)) (ds_cons (ds_for (q := false) (di_seq (dx_name 0)) (dg_name 2) (ds_one (ds_if (DW.dt (dw_and (dt_cmp (opr_ne (room_eq hr)) o_neX (dx_name 1) (dx_lst da_nil) (by first | rfl | exact nobehind _ (by decide) (by decide))) (dw_and1 (dt_cmp (opr_eq (room_eq hr)) o_eqX (dx_sub hr (dx_name 1) (dx_un un_neg o_neg dx_int)) (dx_bin op_sub o_sub dx_int (dx_name 2)) (by first | rfl | exact nobehind _ (by decide) (by decide)))))) (ds_one (ds_mth0 1 PySem.F.slot_list_pop PySem.F.type_list_pop mt_pop lm_pop)) (ds_one (ds_mth 1 PySem.F.slot_list_append PySem.F.type_list_append mt_append lm_app (da_cons (dx_name 2) da_nil)))))) (ds_one (ds_ret (dx_callT call_tupleF on_tuple m_tuple rfl boot_tuple (da_cons (dx_name 1) da_nil))))))⟩
def g__law_word_low (C_Sliding : Addr) : GN := runN ["letters", "found", "letter"] (b__law_word_low)
abbrev s__law_undone : Stmt := topS 24
theorem sc__law_undone : FnScope ["word", "letter"] ["word"] (defScope s__law_undone) := ⟨rfl, rfl, rfl, by decide +kernel, rfl, by decide +kernel, by decide +kernel⟩
def b__law_undone   : Sx := (sRet (xCall gTuple (aCons (xLc (iSeqO (xRev (xName 0))) (gN 1) bYes (xBin gSub (xC (.int 0)) (xName 1)) [1]) aNil)))
set_option maxHeartbeats 8000000 in
theorem den__law_undone {P : Program} {w : World} {K : PySem.W.Frag} {mg : Str → Option Value} {base : Heap}   (m_tuple : mg "tuple" = none)     {qual : Str} {f : Addr} (cdv : Value) (A : Around) (outer : List Env) (s : Shared) (H : Hp) (E : XK) (hr : Room 0 (A.deeper (envOfC qual (defScope s__law_undone) s.heap.objs.size f cdv)))  :
    ∃ t, DSs K (cxOf CX0 P w K mg base ["word", "letter"] qual (defScope s__law_undone) f cdv A outer s H E).nox false (defBody s__law_undone) t (b__law_undone) := by
  have hnd : (["word", "letter"] : List Str).Nodup := by decide +kernel
  exact ⟨_, (ds_one (ds_ret (dx_callT call_tupleF on_tuple m_tuple rfl boot_tuple (da_cons (dx_lc (own := [("letter", 1)]) (di_seqO (dx_rev (dx_name 0))) (blkOk_by rfl) (fun _ _ _ _ _ => (dg_name 1)) (fun _ _ _ _ _ => dts_nil) (fun _ _ _ _ _ => (dx_bin op_sub o_sub dx_int (dx_name 1)))) da_nil))))⟩
def g__law_undone (C_Sliding : Addr) : GN := runN ["word", "letter"] (b__law_undone)
abbrev s__law_slid : Stmt := topS 27
theorem sc__law_slid : FnScope ["plate", "place", "is_ahead", "many", "end", "over", "found", "one", "words", "k"] ["plate", "place", "is_ahead"] (defScope s__law_slid) := ⟨rfl, rfl, rfl, by decide +kernel, rfl, by decide +kernel, by decide +kernel⟩
def b__law_slid   : Sx := (sSeq (sSet 3 (xCall gLen (aCons (xName 0) aNil))) (sSeq (sParN [4, 5] (aCons (xBin gSubX (xName 0) (xName 1)) (aCons (xBin gSubX (xName 0) (xBin gMod (xCall gInt1 (aCons (xBin gAdd (xName 1) (xIf (bVal (xName 2)) (xC (.int 1)) (xBin gSub (xName 3) (xC (.int 1))))) aNil)) (xName 3))) aNil))) (sSeq (sSet 6 (xLst aNil)) (sSeq (sFor (iSeq (xName 0)) (gN 7) (sSeq (sIf (bVal (xBin (gEqX false) (xName 7) (xName 4))) sCt sNx) (sSeq (sIf (bAnd (bVal (xBin (gEqX false) (xName 7) (xBin gSub (xC (.int 0)) (xName 5)))) (bNot (bVal (xName 2)))) (sMth 6 hApp (aCons (xName 4) aNil)) sNx) (sSeq (sMth 6 hApp (aCons (xName 7) aNil)) (sIf (bAnd (bVal (xBin (gEqX false) (xName 7) (xBin gSub (xC (.int 0)) (xName 5)))) (bVal (xName 2))) (sMth 6 hApp (aCons (xName 4) aNil)) sNx))))) (sSeq (sSet 8 (xLc (iR1 (aCons (xBin gDiv (xName 3) (xC (.int 2))) aNil)) (gN 9) bYes (xCall gTup (aCons (xBin gAdd (xName 9) (xC (.int 1))) aNil)) [9])) (sSeq (sAsg (xIf (bVal (xBin gGt (xName 4) (xC (.int 0)))) (xCall gTup (aCons (xName 5) (aCons (xName 4) aNil))) (xCall gTup (aCons (xBin gSub (xC (.int 0)) (xName 4)) (aCons (xBin gSub (xC (.int 0)) (xName 5)) aNil)))) (gIxL 8 (xBin gSub (xCall gAbs (aCons (xName 4) aNil)) (xC (.int 1))))) (sRet (xCall gTup (aCons (xCall gTuple (aCons (xName 6) aNil)) (aCons (xCall gTuple (aCons (xName 8) aNil)) aNil))))))))))
set_option maxHeartbeats 8000000 in
theorem den__law_slid {P : Program} {w : World} {K : PySem.W.Frag} {mg : Str → Option Value} {base : Heap}   (m_len : mg "len" = none) (m_abs : mg "abs" = none) (m_int : mg "int" = none) (m_tuple : mg "tuple" = none) (m_range : mg "range" = none)     {qual : Str} {f : Addr} (cdv : Value) (A : Around) (outer : List Env) (s : Shared) (H : Hp) (E : XK) (hr : Room 0 (A.deeper (envOfC qual (defScope s__law_slid) s.heap.objs.size f cdv)))  :
    ∃ t, DSs K (cxOf CX0 P w K mg base ["plate", "place", "is_ahead", "many", "end", "over", "found", "one", "words", "k"] qual (defScope s__law_slid) f cdv A outer s H E).nox false (defBody s__law_slid) t (b__law_slid) := by
  have hnd : (["plate", "place", "is_ahead", "many", "end", "over", "found", "one", "words", "k"] : List Str).Nodup := by decide +kernel
  exact ⟨_, (ds_cons (ds_set 3 (dx_callB call_len_seq on_len m_len rfl boot_len (da_cons (dx_name 0) da_nil))) (ds_cons (ds_par 4 5 (da_cons (dx_sub hr (dx_name 0) (dx_name 1)) (da_cons (dx_sub hr (dx_name 0) (dx_bin op_mod o_mod (dx_callT call_int1 on_int1 m_int rfl boot_int (da_cons (dx_bin opr_add o_add (dx_name 1) (dx_if (dt_val (dx_name 2)) dx_int (dx_bin op_sub o_sub (dx_name 3) dx_int))) da_nil)) (dx_name 3))) da_nil))) (ds_cons (ds_set 6 (dx_lst da_nil)) (ds_cons (ds_for (q := false) (di_seq (dx_name 0)) (dg_name 7) (ds_cons (ds_if (dt_cmp (opr_eq (room_eq hr)) o_eqX (dx_name 7) (dx_name 4) (by first | rfl | exact nobehind _ (by decide) (by decide))) (ds_one ds_continue) ds_nil) (ds_cons (ds_if (DW.dt (dw_and (dt_cmp (opr_eq (room_eq hr)) o_eqX (dx_name 7) (dx_bin op_sub o_sub dx_int (dx_name 5)) (by first | rfl | exact nobehind _ (by decide) (by decide))) (dw_and1 (dt_not (dt_val (dx_name 2)))))) (ds_one (ds_mth 6 PySem.F.slot_list_append PySem.F.type_list_append mt_append lm_app (da_cons (dx_name 4) da_nil))) ds_nil) (ds_cons (ds_mth 6 PySem.F.slot_list_append PySem.F.type_list_append mt_append lm_app (da_cons (dx_name 7) da_nil)) (ds_one (ds_if (DW.dt (dw_and (dt_cmp (opr_eq (room_eq hr)) o_eqX (dx_name 7) (dx_bin op_sub o_sub dx_int (dx_name 5)) (by first | rfl | exact nobehind _ (by decide) (by decide))) (dw_and1 (dt_val (dx_name 2))))) (ds_one (ds_mth 6 PySem.F.slot_list_append PySem.F.type_list_append mt_append lm_app (da_cons (dx_name 4) da_nil))) ds_nil)))))) (ds_cons (ds_setLc 8 (own := [("k", 9)]) (DI.w (di_r1 (da_cons (dx_bin op_fdiv o_div (dx_name 3) dx_int) da_nil) m_range)) (blkOk_by rfl) (fun _ _ _ _ _ => (dg_name 9)) (fun _ _ _ _ _ => dts_nil) (fun _ _ _ _ _ => (dx_tup (da_cons (dx_bin opr_add o_add (dx_name 9) dx_int) da_nil))) rfl) (ds_cons (ds_asg (q := false) (dx_if (dt_cmp op_gt o_gt (dx_name 4) dx_int (by first | rfl | exact nobehind _ (by decide) (by decide))) (dx_tup (da_cons (dx_name 5) (da_cons (dx_name 4) da_nil))) (dx_tup (da_cons (dx_bin op_sub o_sub dx_int (dx_name 4)) (da_cons (dx_bin op_sub o_sub dx_int (dx_name 5)) da_nil)))) (dg_ixL 8 (dx_bin op_sub o_sub (dx_callB call_abs on_abs m_abs rfl boot_abs (da_cons (dx_name 4) da_nil)) dx_int))) (ds_one (ds_ret (dx_tup (da_cons (dx_callT call_tupleF on_tuple m_tuple rfl boot_tuple (da_cons (dx_name 6) da_nil)) (da_cons (dx_callT call_tupleF on_tuple m_tuple rfl boot_tuple (da_cons (dx_name 8) da_nil)) da_nil)))))))))))⟩
def g__law_slid (C_Sliding : Addr) : GN := runN ["plate", "place", "is_ahead", "many", "end", "over", "found", "one", "words", "k"] (b__law_slid)
abbrev s__law_slides : Stmt := topS 31
theorem sc__law_slides : FnScope ["plate", "many", "found", "place", "is_ahead", "over"] ["plate"] (defScope s__law_slides) := ⟨rfl, rfl, rfl, by decide +kernel, rfl, by decide +kernel, by decide +kernel⟩
def b__law_slides   : Sx := (sSeq (sParN [1, 2] (aCons (xCall gLen (aCons (xName 0) aNil)) (aCons (xLst aNil) aNil))) (sSeq (sFor (iR1 (aCons (xName 1) aNil)) (gN 3) (sFor (iSeq (xCall gTup (aCons (xC (.bl true)) (aCons (xC (.bl false)) aNil)))) (gN 4) (sSeq (sSet 5 (xBin gSubX (xName 0) (xBin gMod (xCall gInt1 (aCons (xBin gAdd (xName 3) (xIf (bVal (xName 4)) (xC (.int 1)) (xBin gSub (xName 1) (xC (.int 1))))) aNil)) (xName 1)))) (sIf (bVal (xBin (gEqX true) (xName 5) (xBin gSub (xC (.int 0)) (xBin gSubX (xName 0) (xName 3))))) (sMth 2 hApp (aCons (xCall gTup (aCons (xName 3) (aCons (xName 4) aNil))) aNil)) sNx)))) (sRetN 2)))
set_option maxHeartbeats 8000000 in
theorem den__law_slides {P : Program} {w : World} {K : PySem.W.Frag} {mg : Str → Option Value} {base : Heap}   (m_len : mg "len" = none) (m_int : mg "int" = none) (m_range : mg "range" = none)     {qual : Str} {f : Addr} (cdv : Value) (A : Around) (outer : List Env) (s : Shared) (H : Hp) (E : XK) (hr : Room 0 (A.deeper (envOfC qual (defScope s__law_slides) s.heap.objs.size f cdv)))  :
    ∃ t, DSs K (cxOf CX0 P w K mg base ["plate", "many", "found", "place", "is_ahead", "over"] qual (defScope s__law_slides) f cdv A outer s H E).nox false (defBody s__law_slides) t (b__law_slides) := by
  have hnd : (["plate", "many", "found", "place", "is_ahead", "over"] : List Str).Nodup := by decide +kernel
  exact ⟨_, (ds_cons (ds_par 1 2 (da_cons (dx_callB call_len_seq on_len m_len rfl boot_len (da_cons (dx_name 0) da_nil)) (da_cons (dx_lst da_nil) da_nil))) (ds_cons (ds_for (q := false) (di_r1 (da_cons (dx_name 1) da_nil) m_range) (dg_name 3) (ds_one (ds_for (q := false) (di_seq (dx_tup (da_cons dx_bl (da_cons dx_bl da_nil)))) (dg_name 4) (ds_cons (ds_set 5 (dx_sub hr (dx_name 0) (dx_bin op_mod o_mod (dx_callT call_int1 on_int1 m_int rfl boot_int (da_cons (dx_bin opr_add o_add (dx_name 3) (dx_if (dt_val (dx_name 4)) dx_int (dx_bin op_sub o_sub (dx_name 1) dx_int))) da_nil)) (dx_name 1)))) (ds_one (ds_if (dt_cmp (opr_ne (room_eq hr)) o_neX (dx_name 5) (dx_bin op_sub o_sub dx_int (dx_sub hr (dx_name 0) (dx_name 3))) (by first | rfl | exact nobehind _ (by decide) (by decide))) (ds_one (ds_mth 2 PySem.F.slot_list_append PySem.F.type_list_append mt_append lm_app (da_cons (dx_tup (da_cons (dx_name 3) (da_cons (dx_name 4) da_nil))) da_nil))) ds_nil)))))) (ds_one (ds_retN 2))))⟩
def g__law_slides (C_Sliding : Addr) : GN := runN ["plate", "many", "found", "place", "is_ahead", "over"] (b__law_slides)
abbrev s_slid : Stmt := topS 12
theorem sc_slid : FnScope ["plate", "place", "is_ahead", "late", "end", "over", "words", "band"] ["plate", "place", "is_ahead"] (defScope s_slid) := ⟨rfl, rfl, rfl, by decide +kernel, rfl, by decide +kernel, by decide +kernel⟩
def b_slid  (g_end_word : GN) (g_slid_ends : GN) : Sx := (sSeq (sAsg (xCall (gArity 3 g_slid_ends) (aCons (xName 0) (aCons (xName 1) (aCons (xName 2) aNil)))) (gT 3 (gsCons (gN 3) (gsCons (gN 4) (gsCons (gN 5) gsNil))))) (sSeq (sSet 6 (xLc (iR1 (aCons (xBin gDiv (xCall gLen (aCons (xName 0) aNil)) (xC (.int 2))) aNil)) (gN 7) bYes (xCall gTup (aCons (xBin gAdd (xName 7) (xC (.int 1))) aNil)) [7])) (sSeq (sAsg (xCall (gArity 2 g_end_word) (aCons (xName 4) (aCons (xName 5) aNil))) (gIxL 6 (xBin gSub (xCall gAbs (aCons (xName 4) aNil)) (xC (.int 1))))) (sRet (xCall gTup (aCons (xName 3) (aCons (xCall gTuple (aCons (xName 6) aNil)) aNil)))))))
set_option maxHeartbeats 8000000 in
theorem den_slid {P : Program} {w : World} {K : PySem.W.Frag} {mg : Str → Option Value} {base : Heap}  {g_end_word : GN} {g_slid_ends : GN} (m_len : mg "len" = none) (m_abs : mg "abs" = none) (m_tuple : mg "tuple" = none) (m_range : mg "range" = none)    (F_end_word : FnD P w K mg base 1 "end_word" 2 g_end_word) (F_slid_ends : FnD P w K mg base 1 "slid_ends" 3 g_slid_ends) {qual : Str} {f : Addr} (cdv : Value) (A : Around) (outer : List Env) (s : Shared) (H : Hp) (E : XK) (hr : Room 1 (A.deeper (envOfC qual (defScope s_slid) s.heap.objs.size f cdv)))  :
    ∃ t, DSs K (cxOf CX0 P w K mg base ["plate", "place", "is_ahead", "late", "end", "over", "words", "band"] qual (defScope s_slid) f cdv A outer s H E).nox false (defBody s_slid) t (b_slid g_end_word g_slid_ends) := by
  have hnd : (["plate", "place", "is_ahead", "late", "end", "over", "words", "band"] : List Str).Nodup := by decide +kernel
  exact ⟨_, (ds_cons (ds_asg (q := false) (fnd_call F_slid_ends hr (da_cons (dx_name 0) (da_cons (dx_name 1) (da_cons (dx_name 2) da_nil)))) (dg_tup (dgs_cons (dg_name 3) (dgs_cons (dg_name 4) (dgs_cons (dg_name 5) dgs_nil))))) (ds_cons (ds_setLc 6 (own := [("band", 7)]) (DI.w (di_r1 (da_cons (dx_bin op_fdiv o_div (dx_callB call_len_seq on_len m_len rfl boot_len (da_cons (dx_name 0) da_nil)) dx_int) da_nil) m_range)) (blkOk_by rfl) (fun _ _ _ _ _ => (dg_name 7)) (fun _ _ _ _ _ => dts_nil) (fun _ _ _ _ _ => (dx_tup (da_cons (dx_bin opr_add o_add (dx_name 7) dx_int) da_nil))) rfl) (ds_cons (ds_asg (q := false) (fnd_call F_end_word hr (da_cons (dx_name 4) (da_cons (dx_name 5) da_nil))) (dg_ixL 6 (dx_bin op_sub o_sub (dx_callB call_abs on_abs m_abs rfl boot_abs (da_cons (dx_name 4) da_nil)) dx_int))) (ds_one (ds_ret (dx_tup (da_cons (dx_name 3) (da_cons (dx_callT call_tupleF on_tuple m_tuple rfl boot_tuple (da_cons (dx_name 6) da_nil)) da_nil))))))))⟩
def g_slid (C_Sliding : Addr) : GN := runN ["plate", "place", "is_ahead", "late", "end", "over", "words", "band"] (b_slid (g_end_word C_Sliding) (g_slid_ends C_Sliding))
abbrev s_letters_put : Stmt := topS 13
theorem sc_letters_put : FnScope ["words", "word", "found", "letter"] ["words", "word"] (defScope s_letters_put) := ⟨rfl, rfl, rfl, by decide +kernel, rfl, by decide +kernel, by decide +kernel⟩
def b_letters_put  (g_not_long : GN) (g_word_low : GN) (g_word_undone : GN) : Sx := (sSeq (sSet 2 (xLst aNil)) (sSeq (sFor (iSeq (xName 1)) (gN 3) (sMth 2 hExT (aCons (xIf (bVal (xBin gGt (xName 3) (xC (.int 0)))) (xBin gSubX (xName 0) (xBin gSub (xName 3) (xC (.int 1)))) (xCall (gArity 1 g_word_undone) (aCons (xBin gSubX (xName 0) (xBin gSub (xUn gNeg (xName 3)) (xC (.int 1)))) aNil))) aNil))) (sRet (xCall (gArity 1 g_not_long) (aCons (xCall (gArity 1 g_word_low) (aCons (xCall gTuple (aCons (xName 2) aNil)) aNil)) aNil)))))
set_option maxHeartbeats 8000000 in
theorem den_letters_put {P : Program} {w : World} {K : PySem.W.Frag} {mg : Str → Option Value} {base : Heap}  {g_not_long : GN} {g_word_low : GN} {g_word_undone : GN} (m_tuple : mg "tuple" = none)    (F_not_long : FnD P w K mg base 1 "not_long" 1 g_not_long) (F_word_low : FnD P w K mg base 1 "word_low" 1 g_word_low) (F_word_undone : FnD P w K mg base 1 "word_undone" 1 g_word_undone) {qual : Str} {f : Addr} (cdv : Value) (A : Around) (outer : List Env) (s : Shared) (H : Hp) (E : XK) (hr : Room 1 (A.deeper (envOfC qual (defScope s_letters_put) s.heap.objs.size f cdv)))  :
    ∃ t, DSs K (cxOf CX0 P w K mg base ["words", "word", "found", "letter"] qual (defScope s_letters_put) f cdv A outer s H E).nox false (defBody s_letters_put) t (b_letters_put g_not_long g_word_low g_word_undone) := by
  have hnd : (["words", "word", "found", "letter"] : List Str).Nodup := by decide +kernel
  exact ⟨_, (ds_cons (ds_set 2 (dx_lst da_nil)) (ds_cons (ds_for (q := false) (di_seq (dx_name 1)) (dg_name 3) (ds_one (ds_mth 2 PySem.F.slot_list_extend PySem.F.type_list_extend mt_exT lm_exT (da_cons (dx_if (dt_cmp op_gt o_gt (dx_name 3) dx_int (by first | rfl | exact nobehind _ (by decide) (by decide))) (dx_sub hr (dx_name 0) (dx_bin op_sub o_sub (dx_name 3) dx_int)) (fnd_call F_word_undone hr (da_cons (dx_sub hr (dx_name 0) (dx_bin op_sub o_sub (dx_un un_neg o_neg (dx_name 3)) dx_int)) da_nil))) da_nil)))) (ds_one (ds_ret (fnd_call F_not_long hr (da_cons (fnd_call F_word_low hr (da_cons (dx_callT call_tupleF on_tuple m_tuple rfl boot_tuple (da_cons (dx_name 2) da_nil)) da_nil)) da_nil))))))⟩
def g_letters_put (C_Sliding : Addr) : GN := runN ["words", "word", "found", "letter"] (b_letters_put (g_not_long C_Sliding) (g_word_low C_Sliding) (g_word_undone C_Sliding))
abbrev s__law_of : Stmt := topS 20
theorem sc__law_of : FnScope ["source", "some"] ["source", "some"] (defScope s__law_of) := ⟨rfl, rfl, rfl, by decide +kernel, rfl, by decide +kernel, by decide +kernel⟩
def b__law_of  (g__law_pick : GS) : Sx := (sRet (xBin gSubX (xName 1) (xCallS 2 g__law_pick (aCons (xName 0) (aCons (xCall gLen (aCons (xName 1) aNil)) aNil)))))
set_option maxHeartbeats 8000000 in
theorem den__law_of {P : Program} {w : World} {K : PySem.W.Frag} {mg : Str → Option Value} {base : Heap}  {g__law_pick : GS} (m_len : mg "len" = none)    (F__law_pick : FnS P w K mg base 1 "_law_pick" 2 g__law_pick) {qual : Str} {f : Addr} (cdv : Value) (A : Around) (outer : List Env) (s : Shared) (H : Hp) (E : XK) (hr : Room 1 (A.deeper (envOfC qual (defScope s__law_of) s.heap.objs.size f cdv)))  :
    ∃ t, DSs K (cxOf CX0 P w K mg base ["source", "some"] qual (defScope s__law_of) f cdv A outer s H E).nox false (defBody s__law_of) t (b__law_of g__law_pick) := by
  have hnd : (["source", "some"] : List Str).Nodup := by decide +kernel
  exact ⟨_, (ds_one (ds_ret (dx_sub hr (dx_name 1) (fns_call F__law_pick hr (da_cons (dx_name 0) (da_cons (dx_callB call_len_seq on_len m_len rfl boot_len (da_cons (dx_name 1) da_nil)) da_nil))))))⟩
def g__law_of (C_Sliding : Addr) : GS := runS ["source", "some"] (b__law_of (g__law_pick C_Sliding))
abbrev s__law_mixed : Stmt := topS 21
theorem sc__law_mixed : FnScope ["source", "things", "rest", "lap"] ["source", "things"] (defScope s__law_mixed) := ⟨rfl, rfl, rfl, by decide +kernel, rfl, by decide +kernel, by decide +kernel⟩
def b__law_mixed  (g__law_pick : GS) : Sx := (sSeq (sSet 2 (xCall gList (aCons (xName 1) aNil))) (sMixed g__law_pick))
set_option maxHeartbeats 8000000 in
theorem den__law_mixed {P : Program} {w : World} {K : PySem.W.Frag} {mg : Str → Option Value} {base : Heap}  {g__law_pick : GS} (m_len : mg "len" = none) (m_list : mg "list" = none) (m_range : mg "range" = none)    (F__law_pick : FnS P w K mg base 1 "_law_pick" 2 g__law_pick) {qual : Str} {f : Addr} (cdv : Value) (A : Around) (outer : List Env) (s : Shared) (H : Hp) (E : XK) (hr : Room 1 (A.deeper (envOfC qual (defScope s__law_mixed) s.heap.objs.size f cdv)))  :
    ∃ t, DSs K (cxOf CX0 P w K mg base ["source", "things", "rest", "lap"] qual (defScope s__law_mixed) f cdv A outer s H E).nox false (defBody s__law_mixed) t (b__law_mixed g__law_pick) := by
  have hnd : (["source", "things", "rest", "lap"] : List Str).Nodup := by decide +kernel
  obtain ⟨fa, fd, ps, F1, F2, F3, F4⟩ := F__law_pick.ex
  exact ⟨_, (ds_cons (ds_set 2 (dx_callT call_list_of on_list m_list rfl boot_list (da_cons (dx_name 1) da_nil))) (ds_one (ts := tRet (tMixed K g__law_pick)) ⟨ps_ret (pe_lc (own := [("lap", 3)]) (g := gName 3) (tt := tYes) rfl hnd (pi_range1 (by rfl) m_range (pa_cons (pe_callB call_len_seq (by rfl) m_len boot_len (pa_cons (pv 2) pa_nil)) pa_nil)) (blkOk_by rfl) (fun _ _ _ _ _ => pg_name (i := 3) hnd rfl (.inl rfl)) (fun _ _ _ _ _ => pts_nil) (fun _ _ _ _ _ => pe_bm PySem.F.plainAttrs_list PySem.F.slot_list_pop PySem.F.type_list_pop mt_popAt (pv 2) (pa_cons (pe_call F1 (hr.mono (by decide)) (by rfl) F2 F3 F4 .nil pass0 (pa_cons (pv 0) (pa_cons (pe_callB call_len_seq (by rfl) m_len boot_len (pa_cons (pv 2) pa_nil)) pa_nil))) pa_nil))), rds_mixed⟩))⟩
def g__law_mixed (C_Sliding : Addr) : GS := runS ["source", "things", "rest", "lap"] (b__law_mixed (g__law_pick C_Sliding))
abbrev s__law_ring : Stmt := topS 25
theorem sc__law_ring : FnScope ["word", "left", "k"] ["word"] (defScope s__law_ring) := ⟨rfl, rfl, rfl, by decide +kernel, rfl, by decide +kernel, by decide +kernel⟩
def b__law_ring  (g__law_word_low : GN) : Sx := (sSeq (sSet 1 (xCall (gArity 1 g__law_word_low) (aCons (xName 0) aNil))) (sSeq (sWhile 1000 (bAnd (bVal (xBin gGt (xCall gLen (aCons (xName 1) aNil)) (xC (.int 1)))) (bVal (xBin (gEqX false) (xBin gSubX (xName 1) (xC (.int 0))) (xBin gSub (xC (.int 0)) (xBin gSubX (xName 1) (xUn gNeg (xC (.int 1)))))))) (sSet 1 (xSl gSl (xName 1) (oSome (xC (.int 1))) (oSome (xUn gNeg (xC (.int 1))))))) (sRet (xIf (bVal (xBin (gEqX true) (xName 1) (xCall gTup aNil))) (xCall gMinT (aCons (xLc (iR1 (aCons (xCall gLen (aCons (xName 1) aNil)) aNil)) (gN 2) bYes (xBin gAdd (xSl gSl (xName 1) (oSome (xName 2)) oNone) (xSl gSl (xName 1) oNone (oSome (xName 2)))) [2]) aNil)) (xCall gTup aNil)))))
set_option maxHeartbeats 8000000 in
theorem den__law_ring {P : Program} {w : World} {K : PySem.W.Frag} {mg : Str → Option Value} {base : Heap}  {g__law_word_low : GN} (m_len : mg "len" = none) (m_min : mg "min" = none) (m_range : mg "range" = none)    (F__law_word_low : FnD P w K mg base 1 "_law_word_low" 1 g__law_word_low) {qual : Str} {f : Addr} (cdv : Value) (A : Around) (outer : List Env) (s : Shared) (H : Hp) (E : XK) (hr : Room 1 (A.deeper (envOfC qual (defScope s__law_ring) s.heap.objs.size f cdv)))  :
    ∃ t, DSs K (cxOf CX0 P w K mg base ["word", "left", "k"] qual (defScope s__law_ring) f cdv A outer s H E).nox false (defBody s__law_ring) t (b__law_ring g__law_word_low) := by
  have hnd : (["word", "left", "k"] : List Str).Nodup := by decide +kernel
  exact ⟨_, (ds_cons (ds_set 1 (fnd_call F__law_word_low hr (da_cons (dx_name 0) da_nil))) (ds_cons (ds_while 1000 (DW.dt (dw_and (dt_cmp op_gt o_gt (dx_callB call_len_seq on_len m_len rfl boot_len (da_cons (dx_name 1) da_nil)) dx_int (by first | rfl | exact nobehind _ (by decide) (by decide))) (dw_and1 (dt_cmp (opr_eq (room_eq hr)) o_eqX (dx_sub hr (dx_name 1) dx_int) (dx_bin op_sub o_sub dx_int (dx_sub hr (dx_name 1) (dx_un un_neg o_neg dx_int))) (by first | rfl | exact nobehind _ (by decide) (by decide)))))) (ds_one (ds_set 1 (dx_sl slr o_sl (dx_name 1) (do_some dx_int) (do_some (dx_un un_neg o_neg dx_int)))))) (ds_one (ds_ret (dx_if (dt_cmp (opr_ne (room_eq hr)) o_neX (dx_name 1) (dx_tup da_nil) (by first | rfl | exact nobehind _ (by decide) (by decide))) (dx_callB (cr_minT rfl (room_eq hr)) on_minT m_min rfl boot_min (da_cons (dx_lc (own := [("k", 2)]) (DI.w (di_r1 (da_cons (dx_callB call_len_seq on_len m_len rfl boot_len (da_cons (dx_name 1) da_nil)) da_nil) m_range)) (blkOk_by rfl) (fun _ _ _ _ _ => (dg_name 2)) (fun _ _ _ _ _ => dts_nil) (fun _ _ _ _ _ => (dx_bin opr_add o_add (dx_sl slr o_sl (dx_name 1) (do_some (dx_name 2)) do_none) (dx_sl slr o_sl (dx_name 1) do_none (do_some (dx_name 2)))))) da_nil)) (dx_tup da_nil))))))⟩
def g__law_ring (C_Sliding : Addr) : GN := runN ["word", "left", "k"] (b__law_ring (g__law_word_low C_Sliding))
abbrev s__law_led : Stmt := topS 28
theorem sc__law_led : FnScope ["words", "word", "found", "letter"] ["words", "word"] (defScope s__law_led) := ⟨rfl, rfl, rfl, by decide +kernel, rfl, by decide +kernel, by decide +kernel⟩
def b__law_led  (g__law_undone : GN) (g__law_word_low : GN) : Sx := (sSeq (sSet 2 (xCall gTup aNil)) (sSeq (sFor (iSeq (xName 1)) (gN 3) (sSet 2 (xCall (gArity 1 g__law_word_low) (aCons (xBin gAdd (xName 2) (xIf (bVal (xBin gGt (xName 3) (xC (.int 0)))) (xBin gSubX (xName 0) (xBin gSub (xName 3) (xC (.int 1)))) (xCall (gArity 1 g__law_undone) (aCons (xBin gSubX (xName 0) (xBin gSub (xBin gSub (xC (.int 0)) (xName 3)) (xC (.int 1)))) aNil)))) aNil)))) (sRetN 2)))
set_option maxHeartbeats 8000000 in
theorem den__law_led {P : Program} {w : World} {K : PySem.W.Frag} {mg : Str → Option Value} {base : Heap}  {g__law_undone : GN} {g__law_word_low : GN}     (F__law_undone : FnD P w K mg base 1 "_law_undone" 1 g__law_undone) (F__law_word_low : FnD P w K mg base 1 "_law_word_low" 1 g__law_word_low) {qual : Str} {f : Addr} (cdv : Value) (A : Around) (outer : List Env) (s : Shared) (H : Hp) (E : XK) (hr : Room 1 (A.deeper (envOfC qual (defScope s__law_led) s.heap.objs.size f cdv)))  :
    ∃ t, DSs K (cxOf CX0 P w K mg base ["words", "word", "found", "letter"] qual (defScope s__law_led) f cdv A outer s H E).nox false (defBody s__law_led) t (b__law_led g__law_undone g__law_word_low) := by
  have hnd : (["words", "word", "found", "letter"] : List Str).Nodup := by decide +kernel
  exact ⟨_, (ds_cons (ds_set 2 (dx_tup da_nil)) (ds_cons (ds_for (q := false) (di_seq (dx_name 1)) (dg_name 3) (ds_one (ds_set 2 (fnd_call F__law_word_low hr (da_cons (dx_bin opr_add o_add (dx_name 2) (dx_if (dt_cmp op_gt o_gt (dx_name 3) dx_int (by first | rfl | exact nobehind _ (by decide) (by decide))) (dx_sub hr (dx_name 0) (dx_bin op_sub o_sub (dx_name 3) dx_int)) (fnd_call F__law_undone hr (da_cons (dx_sub hr (dx_name 0) (dx_bin op_sub o_sub (dx_bin op_sub o_sub dx_int (dx_name 3)) dx_int)) da_nil)))) da_nil))))) (ds_one (ds_retN 2))))⟩
def g__law_led (C_Sliding : Addr) : GN := runN ["words", "word", "found", "letter"] (b__law_led (g__law_undone C_Sliding) (g__law_word_low C_Sliding))
abbrev s_Sliding_slide : Stmt := inClass (topS 15) 1
theorem sc_Sliding_slide : FnScope ["self", "place", "is_ahead", "end", "over", "some", "band", "word", "back"] ["self", "place", "is_ahead"] (defScope s_Sliding_slide) := ⟨rfl, rfl, rfl, by decide +kernel, rfl, by decide +kernel, by decide +kernel⟩
def b_Sliding_slide (C_Sliding : Addr) (g_end_word : GN) (g_letters_put : GN) (g_slid_ends : GN) (g_word_undone : GN) : Sx := (sSeq (sAsg (xCall (gArity 3 g_slid_ends) (aCons (xFld C_Sliding "plate" (xName 0)) (aCons (xName 1) (aCons (xName 2) aNil)))) (gT 3 (gsCons (gFld 0 C_Sliding "plate") (gsCons (gN 3) (gsCons (gN 4) gsNil))))) (sSeq (sSet 5 (xLc (iR1 (aCons (xCall gLen (aCons (xFld C_Sliding "words" (xName 0)) aNil)) aNil)) (gN 6) bYes (xCall gTup (aCons (xBin gAdd (xName 6) (xC (.int 1))) aNil)) [6])) (sSeq (sAsg (xCall (gArity 2 g_end_word) (aCons (xName 3) (aCons (xName 4) aNil))) (gIxL 5 (xBin gSub (xCall gAbs (aCons (xName 3) aNil)) (xC (.int 1))))) (sSeq (sAsg (xLc (iSeqO (xFld C_Sliding "words" (xName 0))) (gN 7) bYes (xCall (gArity 2 g_letters_put) (aCons (xName 5) (aCons (xName 7) aNil))) [7]) (gFld 0 C_Sliding "words")) (sSeq (sSet 8 (xCall (gArity 2 g_letters_put) (aCons (xFld C_Sliding "backs" (xName 0)) (aCons (xCall gTup (aCons (xUn gNeg (xName 4)) (aCons (xName 3) aNil))) aNil)))) (sAsg (xIf (bVal (xBin gGt (xName 3) (xC (.int 0)))) (xName 8) (xCall (gArity 1 g_word_undone) (aCons (xName 8) aNil))) (gIxF 0 C_Sliding "backs" (xBin gSub (xCall gAbs (aCons (xName 3) aNil)) (xC (.int 1))))))))))
set_option maxHeartbeats 8000000 in
theorem den_Sliding_slide {P : Program} {w : World} {K : PySem.W.Frag} {mg : Str → Option Value} {base : Heap} {C_Sliding : Addr} {g_end_word : GN} {g_letters_put : GN} {g_slid_ends : GN} {g_word_undone : GN} (m_len : mg "len" = none) (m_abs : mg "abs" = none) (m_range : mg "range" = none)  (cl_Sliding : Cls K C_Sliding) (na_Sliding_plate : NoAttr K C_Sliding "plate") (na_Sliding_words : NoAttr K C_Sliding "words") (na_Sliding_backs : NoAttr K C_Sliding "backs") (F_end_word : FnD P w K mg base 1 "end_word" 2 g_end_word) (F_letters_put : FnD P w K mg base 2 "letters_put" 2 g_letters_put) (F_slid_ends : FnD P w K mg base 1 "slid_ends" 3 g_slid_ends) (F_word_undone : FnD P w K mg base 1 "word_undone" 1 g_word_undone) {qual : Str} {f : Addr} (cdv : Value) (A : Around) (outer : List Env) (s : Shared) (H : Hp) (E : XK) (hr : Room 2 (A.deeper (envOfC qual (defScope s_Sliding_slide) s.heap.objs.size f cdv)))  :
    ∃ t, DSs K (cxOf CX0 P w K mg base ["self", "place", "is_ahead", "end", "over", "some", "band", "word", "back"] qual (defScope s_Sliding_slide) f cdv A outer s H E).nox true (defBody s_Sliding_slide) t (b_Sliding_slide C_Sliding g_end_word g_letters_put g_slid_ends g_word_undone) := by
  have hnd : (["self", "place", "is_ahead", "end", "over", "some", "band", "word", "back"] : List Str).Nodup := by decide +kernel
  exact ⟨_, (ds_cons (ds_asg (q := false) (fnd_call F_slid_ends hr (da_cons (dx_fld cl_Sliding na_Sliding_plate (dx_name 0)) (da_cons (dx_name 1) (da_cons (dx_name 2) da_nil)))) (dg_tup (dgs_cons (dg_fld 0 cl_Sliding na_Sliding_plate) (dgs_cons (dg_name 3) (dgs_cons (dg_name 4) dgs_nil))))) (ds_cons (ds_set 5 (dx_lc (own := [("band", 6)]) (DI.w (di_r1 (da_cons (dx_callB call_len_seq on_len m_len rfl boot_len (da_cons (dx_fld cl_Sliding na_Sliding_words (dx_name 0)) da_nil)) da_nil) m_range)) (blkOk_by rfl) (fun _ _ _ _ _ => (dg_name 6)) (fun _ _ _ _ _ => dts_nil) (fun _ _ _ _ _ => (dx_tup (da_cons (dx_bin opr_add o_add (dx_name 6) dx_int) da_nil))))) (ds_cons (ds_asg (q := false) (fnd_call F_end_word hr (da_cons (dx_name 3) (da_cons (dx_name 4) da_nil))) (dg_ixL 5 (dx_bin op_sub o_sub (dx_callB call_abs on_abs m_abs rfl boot_abs (da_cons (dx_name 3) da_nil)) dx_int))) (ds_cons (ds_asg (q := false) (dx_lc (own := [("word", 7)]) (di_seqO (dx_fld cl_Sliding na_Sliding_words (dx_name 0))) (blkOk_by rfl) (fun _ _ _ _ _ => (dg_name 7)) (fun _ _ _ _ _ => dts_nil) (fun _ _ _ _ _ => (fnd_call F_letters_put hr (da_cons (dx_name 5) (da_cons (dx_name 7) da_nil))))) (dg_fld 0 cl_Sliding na_Sliding_words)) (ds_cons (ds_set 8 (fnd_call F_letters_put hr (da_cons (dx_fld cl_Sliding na_Sliding_backs (dx_name 0)) (da_cons (dx_tup (da_cons (dx_un un_neg o_neg (dx_name 4)) (da_cons (dx_name 3) da_nil))) da_nil)))) (ds_one (ds_asg (q := false) (dx_if (dt_cmp op_gt o_gt (dx_name 3) dx_int (by first | rfl | exact nobehind _ (by decide) (by decide))) (dx_name 8) (fnd_call F_word_undone hr (da_cons (dx_name 8) da_nil))) (dg_ixF 0 cl_Sliding na_Sliding_backs (dx_bin op_sub o_sub (dx_callB call_abs on_abs m_abs rfl boot_abs (da_cons (dx_name 3) da_nil)) dx_int)))))))))⟩
def g_Sliding_slide (C_Sliding : Addr) : GO := runM ["self", "place", "is_ahead", "end", "over", "some", "band", "word", "back"] (b_Sliding_slide C_Sliding (g_end_word C_Sliding) (g_letters_put C_Sliding) (g_slid_ends C_Sliding) (g_word_undone C_Sliding))
abbrev s_Sliding_renamed : Stmt := inClass (topS 15) 6
theorem sc_Sliding_renamed : FnScope ["self", "firsts", "k", "end", "late", "told", "backs", "word"] ["self"] (defScope s_Sliding_renamed) := ⟨rfl, rfl, rfl, by decide +kernel, rfl, by decide +kernel, by decide +kernel⟩
def b_Sliding_renamed (C_Sliding : Addr) (g_letters_put : GN) : Sx := (sSeq (sSet 1 (xLc (iEn (xFld C_Sliding "plate" (xName 0))) (gT 2 (gsCons (gN 2) (gsCons (gN 3) gsNil))) (bVal (xBin (gInX true) (xUn gNeg (xName 3)) (xSl gSl (xFld C_Sliding "plate" (xName 0)) oNone (oSome (xName 2))))) (xName 3) [2, 3])) (sSeq (sSet 4 (xBin gMul (xLst (aCons (xCall gTup (aCons (xC (.int 0)) aNil)) aNil)) (xCall gLen (aCons (xName 1) aNil)))) (sSeq (fun S e => (sFor (iEn (xName 1)) (gT 2 (gsCons (gN 2) (gsCons (gN 3) gsNil))) (sAsg (xIf (bVal (xBin gGt (xName 3) (xC (.int 0)))) (xCall gTup (aCons (xBin gAdd (xName 2) (xC (.int 1))) aNil)) (xCall gTup (aCons (xBin gSub (xUn gNeg (xName 2)) (xC (.int 1))) aNil))) (gIxL 4 (xBin gSub (xCall gAbs (aCons (xName 3) aNil)) (xC (.int 1)))))) (share 1 S) e) (sSeq (sSet 5 (xCall gTuple (aCons (xLc (iSeqO (xFld C_Sliding "plate" (xName 0))) (gN 3) bYes (xBin gSubX (xCall (gArity 2 g_letters_put) (aCons (xName 4) (aCons (xCall gTup (aCons (xName 3) aNil)) aNil))) (xC (.int 0))) [3]) aNil))) (sSeq (sSet 6 (xLc (iSeqO (xName 1)) (gN 3) bYes (xCall (gArity 2 g_letters_put) (aCons (xFld C_Sliding "backs" (xName 0)) (aCons (xCall gTup (aCons (xName 3) aNil)) aNil))) [3])) (sRet (xCall gTup (aCons (xName 5) (aCons (xCall gTuple (aCons (xLc (iSeqO (xFld C_Sliding "words" (xName 0))) (gN 7) bYes (xCall (gArity 2 g_letters_put) (aCons (xName 4) (aCons (xName 7) aNil))) [7]) aNil)) (aCons (xCall gTuple (aCons (xName 6) aNil)) aNil))))))))))
set_option maxHeartbeats 8000000 in
theorem den_Sliding_renamed {P : Program} {w : World} {K : PySem.W.Frag} {mg : Str → Option Value} {base : Heap} {C_Sliding : Addr} {g_letters_put : GN} (m_len : mg "len" = none) (m_abs : mg "abs" = none) (m_tuple : mg "tuple" = none) (m_enumerate : mg "enumerate" = none)  (cl_Sliding : Cls K C_Sliding) (na_Sliding_plate : NoAttr K C_Sliding "plate") (na_Sliding_words : NoAttr K C_Sliding "words") (na_Sliding_backs : NoAttr K C_Sliding "backs") (F_letters_put : FnD P w K mg base 2 "letters_put" 2 g_letters_put) {qual : Str} {f : Addr} (cdv : Value) (A : Around) (outer : List Env) (s : Shared) (H : Hp) (E : XK) (hr : Room 2 (A.deeper (envOfC qual (defScope s_Sliding_renamed) s.heap.objs.size f cdv)))  :
    ∃ t, DSs K (cxOf CX0 P w K mg base ["self", "firsts", "k", "end", "late", "told", "backs", "word"] qual (defScope s_Sliding_renamed) f cdv A outer s H E).nox false (defBody s_Sliding_renamed) t (b_Sliding_renamed C_Sliding g_letters_put) := by
  have hnd : (["self", "firsts", "k", "end", "late", "told", "backs", "word"] : List Str).Nodup := by decide +kernel
  exact ⟨_, (ds_cons (ds_setLc 1 (own := [("k", 2), ("end", 3)]) (DI.w (di_en (dx_fld cl_Sliding na_Sliding_plate (dx_name 0)) m_enumerate)) (blkOk_by rfl) (fun _ _ _ _ _ => (dg_tup (dgs_cons (dg_name 2) (dgs_cons (dg_name 3) dgs_nil)))) (fun _ _ _ _ _ => (dts_one (dt_cmp (opr_notIn (room_one hr)) o_inX (dx_un un_neg o_neg (dx_name 3)) (dx_sl slr o_sl (dx_fld cl_Sliding na_Sliding_plate (dx_name 0)) do_none (do_some (dx_name 2))) (by first | rfl | exact nobehind _ (by decide) (by decide))))) (fun _ _ _ _ _ => (dx_name 3)) rfl) (ds_cons (ds_set 4 (dx_bin opr_mul o_mul (dx_lst (da_cons (dx_tup (da_cons dx_int da_nil)) da_nil)) (dx_callB call_len_seq on_len m_len rfl boot_len (da_cons (dx_name 1) da_nil)))) (ds_cons (ds_share 1 (ds_for (q := false) (di_en (dx_name 1) m_enumerate) (dg_tup (dgs_cons (dg_name 2) (dgs_cons (dg_name 3) dgs_nil))) (ds_one (ds_asg (q := false) (dx_if (dt_cmp op_gt o_gt (dx_name 3) dx_int (by first | rfl | exact nobehind _ (by decide) (by decide))) (dx_tup (da_cons (dx_bin opr_add o_add (dx_name 2) dx_int) da_nil)) (dx_tup (da_cons (dx_bin op_sub o_sub (dx_un un_neg o_neg (dx_name 2)) dx_int) da_nil))) (dg_ixL 4 (dx_bin op_sub o_sub (dx_callB call_abs on_abs m_abs rfl boot_abs (da_cons (dx_name 3) da_nil)) dx_int)))))) (ds_cons (ds_set 5 (dx_callT call_tupleF on_tuple m_tuple rfl boot_tuple (da_cons (dx_lc (own := [("end", 3)]) (di_seqO (dx_fld cl_Sliding na_Sliding_plate (dx_name 0))) (blkOk_by rfl) (fun _ _ _ _ _ => (dg_name 3)) (fun _ _ _ _ _ => dts_nil) (fun _ _ _ _ _ => (dx_sub hr (fnd_call F_letters_put hr (da_cons (dx_name 4) (da_cons (dx_tup (da_cons (dx_name 3) da_nil)) da_nil))) dx_int))) da_nil))) (ds_cons (ds_setLc 6 (own := [("end", 3)]) (di_seqO (dx_name 1)) (blkOk_by rfl) (fun _ _ _ _ _ => (dg_name 3)) (fun _ _ _ _ _ => dts_nil) (fun _ _ _ _ _ => (fnd_call F_letters_put hr (da_cons (dx_fld cl_Sliding na_Sliding_backs (dx_name 0)) (da_cons (dx_tup (da_cons (dx_name 3) da_nil)) da_nil)))) rfl) (ds_one (ds_ret (dx_tup (da_cons (dx_name 5) (da_cons (dx_callT call_tupleF on_tuple m_tuple rfl boot_tuple (da_cons (dx_lc (own := [("word", 7)]) (di_seqO (dx_fld cl_Sliding na_Sliding_words (dx_name 0))) (blkOk_by rfl) (fun _ _ _ _ _ => (dg_name 7)) (fun _ _ _ _ _ => dts_nil) (fun _ _ _ _ _ => (fnd_call F_letters_put hr (da_cons (dx_name 4) (da_cons (dx_name 7) da_nil))))) da_nil)) (da_cons (dx_callT call_tupleF on_tuple m_tuple rfl boot_tuple (da_cons (dx_name 6) da_nil)) da_nil)))))))))))⟩
def g_Sliding_renamed (C_Sliding : Addr) : GN := runN ["self", "firsts", "k", "end", "late", "told", "backs", "word"] (b_Sliding_renamed C_Sliding (g_letters_put C_Sliding))
abbrev s__law_plate : Stmt := topS 22
theorem sc__law_plate : FnScope ["source", "most", "many", "k"] ["source", "most"] (defScope s__law_plate) := ⟨rfl, rfl, rfl, by decide +kernel, rfl, by decide +kernel, by decide +kernel⟩
def b__law_plate  (g__law_mixed : GS) (g__law_pick : GS) : Sx := (sSeq (sSet 2 (xBin gAdd (xC (.int 1)) (xCallS 2 g__law_pick (aCons (xName 0) (aCons (xName 1) aNil))))) (sRet (xCall gTuple (aCons (xCallS 2 g__law_mixed (aCons (xName 0) (aCons (xLc (iR2 (aCons (xBin gSub (xC (.int 0)) (xName 2)) (aCons (xBin gAdd (xName 2) (xC (.int 1))) aNil))) (gN 3) (bVal (xBin (gEqX true) (xName 3) (xC (.int 0)))) (xName 3) [3]) aNil))) aNil))))
set_option maxHeartbeats 8000000 in
theorem den__law_plate {P : Program} {w : World} {K : PySem.W.Frag} {mg : Str → Option Value} {base : Heap}  {g__law_mixed : GS} {g__law_pick : GS} (m_tuple : mg "tuple" = none) (m_range : mg "range" = none)    (F__law_mixed : FnS P w K mg base 2 "_law_mixed" 2 g__law_mixed) (F__law_pick : FnS P w K mg base 1 "_law_pick" 2 g__law_pick) {qual : Str} {f : Addr} (cdv : Value) (A : Around) (outer : List Env) (s : Shared) (H : Hp) (E : XK) (hr : Room 2 (A.deeper (envOfC qual (defScope s__law_plate) s.heap.objs.size f cdv)))  :
    ∃ t, DSs K (cxOf CX0 P w K mg base ["source", "most", "many", "k"] qual (defScope s__law_plate) f cdv A outer s H E).nox false (defBody s__law_plate) t (b__law_plate g__law_mixed g__law_pick) := by
  have hnd : (["source", "most", "many", "k"] : List Str).Nodup := by decide +kernel
  exact ⟨_, (ds_cons (ds_set 2 (dx_bin opr_add o_add dx_int (fns_call F__law_pick hr (da_cons (dx_name 0) (da_cons (dx_name 1) da_nil))))) (ds_one (ds_ret (dx_callT call_tupleF on_tuple m_tuple rfl boot_tuple (da_cons (fns_call F__law_mixed hr (da_cons (dx_name 0) (da_cons (dx_lc (own := [("k", 3)]) (DI.w (di_r2 (da_cons (dx_bin op_sub o_sub dx_int (dx_name 2)) (da_cons (dx_bin opr_add o_add (dx_name 2) dx_int) da_nil)) m_range)) (blkOk_by rfl) (fun _ _ _ _ _ => (dg_name 3)) (fun _ _ _ _ _ => (dts_one (dt_cmp (opr_ne (room_eq hr)) o_neX (dx_name 3) dx_int (by first | rfl | exact nobehind _ (by decide) (by decide))))) (fun _ _ _ _ _ => (dx_name 3))) da_nil))) da_nil)))))⟩
def g__law_plate (C_Sliding : Addr) : GS := runS ["source", "most", "many", "k"] (b__law_plate (g__law_mixed C_Sliding) (g__law_pick C_Sliding))
abbrev s__law_drawn_ring : Stmt := topS 26
theorem sc__law_drawn_ring : FnScope ["source", "plate", "most", "bands", "letters", "k"] ["source", "plate", "most"] (defScope s__law_drawn_ring) := ⟨rfl, rfl, rfl, by decide +kernel, rfl, by decide +kernel, by decide +kernel⟩
def b__law_drawn_ring  (g__law_of : GS) (g__law_pick : GS) (g__law_ring : GN) : Sx := (sSeq (sSet 3 (xBin gDiv (xCall gLen (aCons (xName 1) aNil)) (xC (.int 2)))) (sSeq (sSet 4 (xLc (iR2 (aCons (xBin gSub (xC (.int 0)) (xName 3)) (aCons (xBin gAdd (xName 3) (xC (.int 1))) aNil))) (gN 5) (bVal (xBin (gEqX true) (xName 5) (xC (.int 0)))) (xName 5) [5])) (sRet (xCall (gArity 1 g__law_ring) (aCons (xLc (iR1 (aCons (xBin gAdd (xC (.int 1)) (xCallS 2 g__law_pick (aCons (xName 0) (aCons (xName 2) aNil)))) aNil)) (gN 5) bYes (xCallS 2 g__law_of (aCons (xName 0) (aCons (xName 4) aNil))) [5]) aNil)))))
set_option maxHeartbeats 8000000 in
theorem den__law_drawn_ring {P : Program} {w : World} {K : PySem.W.Frag} {mg : Str → Option Value} {base : Heap}  {g__law_of : GS} {g__law_pick : GS} {g__law_ring : GN} (m_len : mg "len" = none) (m_range : mg "range" = none)    (F__law_of : FnS P w K mg base 2 "_law_of" 2 g__law_of) (F__law_pick : FnS P w K mg base 1 "_law_pick" 2 g__law_pick) (F__law_ring : FnD P w K mg base 2 "_law_ring" 1 g__law_ring) {qual : Str} {f : Addr} (cdv : Value) (A : Around) (outer : List Env) (s : Shared) (H : Hp) (E : XK) (hr : Room 2 (A.deeper (envOfC qual (defScope s__law_drawn_ring) s.heap.objs.size f cdv)))  :
    ∃ t, DSs K (cxOf CX0 P w K mg base ["source", "plate", "most", "bands", "letters", "k"] qual (defScope s__law_drawn_ring) f cdv A outer s H E).nox false (defBody s__law_drawn_ring) t (b__law_drawn_ring g__law_of g__law_pick g__law_ring) := by
  have hnd : (["source", "plate", "most", "bands", "letters", "k"] : List Str).Nodup := by decide +kernel
  exact ⟨_, (ds_cons (ds_set 3 (dx_bin op_fdiv o_div (dx_callB call_len_seq on_len m_len rfl boot_len (da_cons (dx_name 1) da_nil)) dx_int)) (ds_cons (ds_set 4 (dx_lc (own := [("k", 5)]) (DI.w (di_r2 (da_cons (dx_bin op_sub o_sub dx_int (dx_name 3)) (da_cons (dx_bin opr_add o_add (dx_name 3) dx_int) da_nil)) m_range)) (blkOk_by rfl) (fun _ _ _ _ _ => (dg_name 5)) (fun _ _ _ _ _ => (dts_one (dt_cmp (opr_ne (room_eq hr)) o_neX (dx_name 5) dx_int (by first | rfl | exact nobehind _ (by decide) (by decide))))) (fun _ _ _ _ _ => (dx_name 5)))) (ds_one (ds_ret (fnd_call F__law_ring hr (da_cons (dx_lc (own := [("k", 5)]) (DI.w (di_r1 (da_cons (dx_bin opr_add o_add dx_int (fns_call F__law_pick hr (da_cons (dx_name 0) (da_cons (dx_name 2) da_nil)))) da_nil) m_range)) (blkOk_by rfl) (fun _ _ _ _ _ => (dg_name 5)) (fun _ _ _ _ _ => dts_nil) (fun _ _ _ _ _ => (fns_call F__law_of hr (da_cons (dx_name 0) (da_cons (dx_name 4) da_nil))))) da_nil))))))⟩
def g__law_drawn_ring (C_Sliding : Addr) : GS := runS ["source", "plate", "most", "bands", "letters", "k"] (b__law_drawn_ring (g__law_of C_Sliding) (g__law_pick C_Sliding) (g__law_ring C_Sliding))
abbrev s__law_rims : Stmt := topS 29
theorem sc__law_rims : FnScope ["plate", "at", "met", "found", "k", "end", "first", "row", "letter"] ["plate"] (defScope s__law_rims) := ⟨rfl, rfl, rfl, by decide +kernel, rfl, by decide +kernel, by decide +kernel⟩
def b__law_rims  (g__law_ring : GN) : Sx := (sSeq (sParN [1, 2, 3] (aCons (xCall gDict (aCons (xLc (iEn (xName 0)) (gT 2 (gsCons (gN 4) (gsCons (gN 5) gsNil))) bYes (xCall gTup (aCons (xName 5) (aCons (xName 4) aNil))) [4, 5]) aNil)) (aCons (fun _ e => some (⟨.own, .dct [] []⟩, e)) (aCons (xLst aNil) aNil)))) (sSeq (sFor (iSeq (xName 0)) (gN 6) (sSeq (sParN [7, 8] (aCons (xLst aNil) (aCons (xName 6) aNil))) (sSeq (sWhile 1000 (bVal (xBin (gInX true) (xName 8) (xName 2))) (sSeq (sAsg (xC (.bl true)) (gIxD 2 (xName 8))) (sSeq (sMth 7 hApp (aCons (xName 8) aNil)) (sSet 8 (xBin gSubX (xName 0) (xBin gMod (xCall gInt1 (aCons (xBin gAdd (xBin gSubX (xName 1) (xBin gSub (xC (.int 0)) (xName 8))) (xC (.int 1))) aNil)) (xCall gLen (aCons (xName 0) aNil)))))))) (sSet 3 (xBin gAdd (xName 3) (xIf (bVal (xBin (gEqX true) (xName 7) (xLst aNil))) (xLst (aCons (xCall (gArity 1 g__law_ring) (aCons (xName 7) aNil)) aNil)) (xLst aNil))))))) (sRet (xCall gSortT (aCons (xName 3) aNil)))))
set_option maxHeartbeats 8000000 in
theorem den__law_rims {P : Program} {w : World} {K : PySem.W.Frag} {mg : Str → Option Value} {base : Heap}  {g__law_ring : GN} (m_len : mg "len" = none) (m_int : mg "int" = none) (m_dict : mg "dict" = none) (m_sorted : mg "sorted" = none) (m_enumerate : mg "enumerate" = none)    (F__law_ring : FnD P w K mg base 2 "_law_ring" 1 g__law_ring) {qual : Str} {f : Addr} (cdv : Value) (A : Around) (outer : List Env) (s : Shared) (H : Hp) (E : XK) (hr : Room 2 (A.deeper (envOfC qual (defScope s__law_rims) s.heap.objs.size f cdv)))  :
    ∃ t, DSs K (cxOf CX0 P w K mg base ["plate", "at", "met", "found", "k", "end", "first", "row", "letter"] qual (defScope s__law_rims) f cdv A outer s H E).nox false (defBody s__law_rims) t (b__law_rims g__law_ring) := by
  have hnd : (["plate", "at", "met", "found", "k", "end", "first", "row", "letter"] : List Str).Nodup := by decide +kernel
  exact ⟨_, (ds_cons (ds_par3 1 2 3 (da_cons (dx_callT (call_dictP rfl) on_dict m_dict rfl boot_dict (da_cons (dx_lc (own := [("k", 4), ("end", 5)]) (DI.w (di_en (dx_name 0) m_enumerate)) (blkOk_by rfl) (fun _ _ _ _ _ => (dg_tup (dgs_cons (dg_name 4) (dgs_cons (dg_name 5) dgs_nil)))) (fun _ _ _ _ _ => dts_nil) (fun _ _ _ _ _ => (dx_tup (da_cons (dx_name 5) (da_cons (dx_name 4) da_nil))))) da_nil)) (da_cons dx_dnew (da_cons (dx_lst da_nil) da_nil)))) (ds_cons (ds_for (q := false) (di_seq (dx_name 0)) (dg_name 6) (ds_cons (ds_par 7 8 (da_cons (dx_lst da_nil) (da_cons (dx_name 6) da_nil))) (ds_cons (ds_while 1000 (dt_cmp (opr_notIn (room_one hr)) o_inX (dx_name 8) (dx_name 2) (by first | rfl | exact nobehind _ (by decide) (by decide))) (ds_cons (ds_asg (q := false) dx_bl (dg_ixD 2 hr (dx_name 8))) (ds_cons (ds_mth 7 PySem.F.slot_list_append PySem.F.type_list_append mt_append lm_app (da_cons (dx_name 8) da_nil)) (ds_one (ds_set 8 (dx_sub hr (dx_name 0) (dx_bin op_mod o_mod (dx_callT call_int1 on_int1 m_int rfl boot_int (da_cons (dx_bin opr_add o_add (dx_sub hr (dx_name 1) (dx_bin op_sub o_sub dx_int (dx_name 8))) dx_int) da_nil)) (dx_callB call_len_seq on_len m_len rfl boot_len (da_cons (dx_name 0) da_nil))))))))) (ds_one (ds_set 3 (dx_bin opr_add o_add (dx_name 3) (dx_if (dt_cmp (opr_ne (room_eq hr)) o_neX (dx_name 7) (dx_lst da_nil) (by first | rfl | exact nobehind _ (by decide) (by decide))) (dx_lst (da_cons (fnd_call F__law_ring hr (da_cons (dx_name 7) da_nil)) da_nil)) (dx_lst da_nil)))))))) (ds_one (ds_ret (dx_callB (cr_sortT (room_eq hr)) on_sortT m_sorted rfl boot_sorted (da_cons (dx_name 3) da_nil))))))⟩
def g__law_rims (C_Sliding : Addr) : GN := runN ["plate", "at", "met", "found", "k", "end", "first", "row", "letter"] (b__law_rims (g__law_ring C_Sliding))
abbrev s_Sliding_gathered : Stmt := inClass (topS 15) 2
theorem sc_Sliding_gathered : FnScope ["self", "start", "end"] ["self", "start", "end"] (defScope s_Sliding_gathered) := ⟨rfl, rfl, rfl, by decide +kernel, rfl, by decide +kernel, by decide +kernel⟩
def b_Sliding_gathered (C_Sliding : Addr) (g_Sliding_slide : GO) : Sx := (sWhile 1000 (bVal (xBin (gEqX true) (xBin gSubX (xFld C_Sliding "plate" (xName 0)) (xBin gAdd (xBm gIdx (xFld C_Sliding "plate" (xName 0)) (aCons (xName 1) aNil)) (xC (.int 1)))) (xName 2))) (sMm 0 C_Sliding "slide" 2 g_Sliding_slide (aCons (xBin gAdd (xBm gIdx (xFld C_Sliding "plate" (xName 0)) (aCons (xName 1) aNil)) (xC (.int 1))) (aCons (xC (.bl false)) aNil))))
set_option maxHeartbeats 8000000 in
theorem den_Sliding_gathered {P : Program} {w : World} {K : PySem.W.Frag} {mg : Str → Option Value} {base : Heap} {C_Sliding : Addr} {g_Sliding_slide : GO}   (cl_Sliding : Cls K C_Sliding) (na_Sliding_plate : NoAttr K C_Sliding "plate") (F_Sliding_slide : FnM P w K mg base C_Sliding 3 "slide" 2 g_Sliding_slide) {qual : Str} {f : Addr} (cdv : Value) (A : Around) (outer : List Env) (s : Shared) (H : Hp) (E : XK) (hr : Room 3 (A.deeper (envOfC qual (defScope s_Sliding_gathered) s.heap.objs.size f cdv)))  :
    ∃ t, DSs K (cxOf CX0 P w K mg base ["self", "start", "end"] qual (defScope s_Sliding_gathered) f cdv A outer s H E).nox true (defBody s_Sliding_gathered) t (b_Sliding_gathered C_Sliding g_Sliding_slide) := by
  have hnd : (["self", "start", "end"] : List Str).Nodup := by decide +kernel
  exact ⟨_, (ds_one (ds_while 1000 (dt_cmp (opr_ne (room_eq hr)) o_neX (dx_sub hr (dx_fld cl_Sliding na_Sliding_plate (dx_name 0)) (dx_bin opr_add o_add (dx_idx (dx_fld cl_Sliding na_Sliding_plate (dx_name 0)) (da_cons (dx_name 1) da_nil)) dx_int)) (dx_name 2) (by first | rfl | exact nobehind _ (by decide) (by decide))) (ds_one (ds_mm 0 F_Sliding_slide cl_Sliding hr (da_cons (dx_bin opr_add o_add (dx_idx (dx_fld cl_Sliding na_Sliding_plate (dx_name 0)) (da_cons (dx_name 1) da_nil)) dx_int) (da_cons dx_bl da_nil))))))⟩
def g_Sliding_gathered (C_Sliding : Addr) : GO := runM ["self", "start", "end"] (b_Sliding_gathered C_Sliding (g_Sliding_slide C_Sliding))
abbrev s__law_type_plate : Stmt := topS 30
theorem sc__law_type_plate : FnScope ["plate", "rims", "many", "handles", "found", "k"] ["plate"] (defScope s__law_type_plate) := ⟨rfl, rfl, rfl, by decide +kernel, rfl, by decide +kernel, by decide +kernel⟩
def b__law_type_plate  (g__law_rims : GN) : Sx := (sSeq (sParN [1, 2] (aCons (xCall gLen (aCons (xCall (gArity 1 g__law_rims) (aCons (xName 0) aNil)) aNil)) (aCons (xBin gDiv (xCall gLen (aCons (xName 0) aNil)) (xC (.int 2))) aNil))) (sSeq (sParN [3, 4] (aCons (xBin gDiv (xBin gSub (xBin gAdd (xC (.int 1)) (xName 2)) (xName 1)) (xC (.int 2))) (aCons (xLst aNil) aNil))) (sSeq (sFor (iR1 (aCons (xName 3) aNil)) (gN 5) (sSet 4 (xBin gAdd (xName 4) (xLst (aCons (xBin gAdd (xBin gMul (xC (.int 2)) (xName 5)) (xC (.int 1))) (aCons (xBin gAdd (xBin gMul (xC (.int 2)) (xName 5)) (xC (.int 2))) (aCons (xBin gSub (xBin gMul (xUn gNeg (xC (.int 2))) (xName 5)) (xC (.int 1))) (aCons (xBin gSub (xBin gMul (xUn gNeg (xC (.int 2))) (xName 5)) (xC (.int 2))) aNil)))))))) (sSeq (sFor (iR2 (aCons (xBin gAdd (xBin gMul (xC (.int 2)) (xName 3)) (xC (.int 1))) (aCons (xBin gAdd (xBin gMul (xC (.int 2)) (xName 3)) (xName 1)) aNil))) (gN 5) (sSet 4 (xBin gAdd (xName 4) (xLst (aCons (xName 5) (aCons (xBin gSub (xC (.int 0)) (xName 5)) aNil)))))) (sRet (xCall gTuple (aCons (xName 4) aNil)))))))
set_option maxHeartbeats 8000000 in
theorem den__law_type_plate {P : Program} {w : World} {K : PySem.W.Frag} {mg : Str → Option Value} {base : Heap}  {g__law_rims : GN} (m_len : mg "len" = none) (m_tuple : mg "tuple" = none) (m_range : mg "range" = none)    (F__law_rims : FnD P w K mg base 3 "_law_rims" 1 g__law_rims) {qual : Str} {f : Addr} (cdv : Value) (A : Around) (outer : List Env) (s : Shared) (H : Hp) (E : XK) (hr : Room 3 (A.deeper (envOfC qual (defScope s__law_type_plate) s.heap.objs.size f cdv)))  :
    ∃ t, DSs K (cxOf CX0 P w K mg base ["plate", "rims", "many", "handles", "found", "k"] qual (defScope s__law_type_plate) f cdv A outer s H E).nox false (defBody s__law_type_plate) t (b__law_type_plate g__law_rims) := by
  have hnd : (["plate", "rims", "many", "handles", "found", "k"] : List Str).Nodup := by decide +kernel
  exact ⟨_, (ds_cons (ds_par 1 2 (da_cons (dx_callB call_len_seq on_len m_len rfl boot_len (da_cons (fnd_call F__law_rims hr (da_cons (dx_name 0) da_nil)) da_nil)) (da_cons (dx_bin op_fdiv o_div (dx_callB call_len_seq on_len m_len rfl boot_len (da_cons (dx_name 0) da_nil)) dx_int) da_nil))) (ds_cons (ds_par 3 4 (da_cons (dx_bin op_fdiv o_div (dx_bin op_sub o_sub (dx_bin opr_add o_add dx_int (dx_name 2)) (dx_name 1)) dx_int) (da_cons (dx_lst da_nil) da_nil))) (ds_cons (ds_for (q := false) (di_r1 (da_cons (dx_name 3) da_nil) m_range) (dg_name 5) (ds_one (ds_set 4 (dx_bin opr_add o_add (dx_name 4) (dx_lst (da_cons (dx_bin opr_add o_add (dx_bin opr_mul o_mul dx_int (dx_name 5)) dx_int) (da_cons (dx_bin opr_add o_add (dx_bin opr_mul o_mul dx_int (dx_name 5)) dx_int) (da_cons (dx_bin op_sub o_sub (dx_bin opr_mul o_mul (dx_un un_neg o_neg dx_int) (dx_name 5)) dx_int) (da_cons (dx_bin op_sub o_sub (dx_bin opr_mul o_mul (dx_un un_neg o_neg dx_int) (dx_name 5)) dx_int) da_nil))))))))) (ds_cons (ds_for (q := false) (di_r2 (da_cons (dx_bin opr_add o_add (dx_bin opr_mul o_mul dx_int (dx_name 3)) dx_int) (da_cons (dx_bin opr_add o_add (dx_bin opr_mul o_mul dx_int (dx_name 3)) (dx_name 1)) da_nil)) m_range) (dg_name 5) (ds_one (ds_set 4 (dx_bin opr_add o_add (dx_name 4) (dx_lst (da_cons (dx_name 5) (da_cons (dx_bin op_sub o_sub dx_int (dx_name 5)) da_nil))))))) (ds_one (ds_ret (dx_callT call_tupleF on_tuple m_tuple rfl boot_tuple (da_cons (dx_name 4) da_nil))))))))⟩
def g__law_type_plate (C_Sliding : Addr) : GN := runN ["plate", "rims", "many", "handles", "found", "k"] (b__law_type_plate (g__law_rims C_Sliding))
abbrev s_Sliding_handle : Stmt := inClass (topS 15) 4
theorem sc_Sliding_handle : FnScope ["self", "one", "other", "done", "at", "end", "lap"] ["self", "one", "other", "done"] (defScope s_Sliding_handle) := ⟨rfl, rfl, rfl, by decide +kernel, rfl, by decide +kernel, by decide +kernel⟩
def b_Sliding_handle (C_Sliding : Addr) (g_Sliding_gathered : GO) (g_Sliding_slide : GO) : Sx := (sSeq (sMm 0 C_Sliding "gathered" 2 g_Sliding_gathered (aCons (xName 1) (aCons (xName 2) aNil))) (sSeq (sMm 0 C_Sliding "gathered" 2 g_Sliding_gathered (aCons (xName 2) (aCons (xUn gNeg (xName 1)) aNil))) (sSeq (sMm 0 C_Sliding "gathered" 2 g_Sliding_gathered (aCons (xUn gNeg (xName 1)) (aCons (xUn gNeg (xName 2)) aNil))) (sSeq (sIf (bVal (xBin (gEqX false) (xName 3) (xC (.int 0)))) (sSeq (sSet 4 (xBm gIdx (xFld C_Sliding "plate" (xName 0)) (aCons (xName 1) aNil))) (sAsg (xBin gAdd (xSl gSl (xFld C_Sliding "plate" (xName 0)) (oSome (xName 4)) oNone) (xSl gSl (xFld C_Sliding "plate" (xName 0)) oNone (oSome (xName 4)))) (gFld 0 C_Sliding "plate"))) sNx) (sWhile 1000 (bVal (xBin gGt (xBm gIdx (xFld C_Sliding "plate" (xName 0)) (aCons (xName 1) aNil)) (xName 3))) (sSeq (sSet 5 (xBin gSubX (xFld C_Sliding "plate" (xName 0)) (xBin gSub (xBm gIdx (xFld C_Sliding "plate" (xName 0)) (aCons (xName 1) aNil)) (xC (.int 1))))) (sFor (iR1 (aCons (xC (.int 4)) aNil)) (gN 6) (sMm 0 C_Sliding "slide" 2 g_Sliding_slide (aCons (xBm gIdx (xFld C_Sliding "plate" (xName 0)) (aCons (xName 5) aNil)) (aCons (xC (.bl true)) aNil))))))))))
set_option maxHeartbeats 8000000 in
theorem den_Sliding_handle {P : Program} {w : World} {K : PySem.W.Frag} {mg : Str → Option Value} {base : Heap} {C_Sliding : Addr} {g_Sliding_gathered : GO} {g_Sliding_slide : GO} (m_range : mg "range" = none)  (cl_Sliding : Cls K C_Sliding) (na_Sliding_plate : NoAttr K C_Sliding "plate") (F_Sliding_gathered : FnM P w K mg base C_Sliding 4 "gathered" 2 g_Sliding_gathered) (F_Sliding_slide : FnM P w K mg base C_Sliding 3 "slide" 2 g_Sliding_slide) {qual : Str} {f : Addr} (cdv : Value) (A : Around) (outer : List Env) (s : Shared) (H : Hp) (E : XK) (hr : Room 4 (A.deeper (envOfC qual (defScope s_Sliding_handle) s.heap.objs.size f cdv)))  :
    ∃ t, DSs K (cxOf CX0 P w K mg base ["self", "one", "other", "done", "at", "end", "lap"] qual (defScope s_Sliding_handle) f cdv A outer s H E).nox true (defBody s_Sliding_handle) t (b_Sliding_handle C_Sliding g_Sliding_gathered g_Sliding_slide) := by
  have hnd : (["self", "one", "other", "done", "at", "end", "lap"] : List Str).Nodup := by decide +kernel
  exact ⟨_, (ds_cons (ds_mm 0 F_Sliding_gathered cl_Sliding hr (da_cons (dx_name 1) (da_cons (dx_name 2) da_nil))) (ds_cons (ds_mm 0 F_Sliding_gathered cl_Sliding hr (da_cons (dx_name 2) (da_cons (dx_un un_neg o_neg (dx_name 1)) da_nil))) (ds_cons (ds_mm 0 F_Sliding_gathered cl_Sliding hr (da_cons (dx_un un_neg o_neg (dx_name 1)) (da_cons (dx_un un_neg o_neg (dx_name 2)) da_nil))) (ds_cons (ds_if (dt_cmp (opr_eq (room_eq hr)) o_eqX (dx_name 3) dx_int (by first | rfl | exact nobehind _ (by decide) (by decide))) (ds_cons (ds_set 4 (dx_idx (dx_fld cl_Sliding na_Sliding_plate (dx_name 0)) (da_cons (dx_name 1) da_nil))) (ds_one (ds_asg (q := false) (dx_bin opr_add o_add (dx_sl slr o_sl (dx_fld cl_Sliding na_Sliding_plate (dx_name 0)) (do_some (dx_name 4)) do_none) (dx_sl slr o_sl (dx_fld cl_Sliding na_Sliding_plate (dx_name 0)) do_none (do_some (dx_name 4)))) (dg_fld 0 cl_Sliding na_Sliding_plate)))) ds_nil) (ds_one (ds_while 1000 (dt_cmp op_gt o_gt (dx_idx (dx_fld cl_Sliding na_Sliding_plate (dx_name 0)) (da_cons (dx_name 1) da_nil)) (dx_name 3) (by first | rfl | exact nobehind _ (by decide) (by decide))) (ds_cons (ds_set 5 (dx_sub hr (dx_fld cl_Sliding na_Sliding_plate (dx_name 0)) (dx_bin op_sub o_sub (dx_idx (dx_fld cl_Sliding na_Sliding_plate (dx_name 0)) (da_cons (dx_name 1) da_nil)) dx_int))) (ds_one (ds_for (q := false) (di_r1 (da_cons dx_int da_nil) m_range) (dg_name 6) (ds_one (ds_mm 0 F_Sliding_slide cl_Sliding hr (da_cons (dx_idx (dx_fld cl_Sliding na_Sliding_plate (dx_name 0)) (da_cons (dx_name 5) da_nil)) (da_cons dx_bl da_nil)))))))))))))⟩
def g_Sliding_handle (C_Sliding : Addr) : GO := runM ["self", "one", "other", "done", "at", "end", "lap"] (b_Sliding_handle C_Sliding (g_Sliding_gathered C_Sliding) (g_Sliding_slide C_Sliding))
abbrev s_Sliding_run : Stmt := inClass (topS 15) 5
theorem sc_Sliding_run : FnScope ["self", "done", "found"] ["self"] (defScope s_Sliding_run) := ⟨rfl, rfl, rfl, by decide +kernel, rfl, by decide +kernel, by decide +kernel⟩
def b_Sliding_run (C_Sliding : Addr) (g_Sliding_handle : GO) (g_Sliding_linked : GN) (g_Sliding_slide : GO) : Sx := (sSeq (sParN [1, 2] (aCons (xC (.int 0)) (aCons (xPm C_Sliding "linked" 2 g_Sliding_linked (xName 0) (aCons (xC (.int 0)) aNil)) aNil))) (sSeq (sWhile 1000 (bVal (xBin (gIsN true) (xName 2) (xC .non))) (sSeq (sMm 0 C_Sliding "handle" 3 g_Sliding_handle (aCons (xBin gSubX (xName 2) (xC (.int 0))) (aCons (xBin gSubX (xName 2) (xC (.int 1))) (aCons (xName 1) aNil)))) (sSeq (sAug 1 (fun i j => i + j) (xC (.int 4))) (sSet 2 (xPm C_Sliding "linked" 2 g_Sliding_linked (xName 0) (aCons (xName 1) aNil)))))) (sWhile 1000 (bVal (xBin gLt (xName 1) (xCall gLen (aCons (xFld C_Sliding "plate" (xName 0)) aNil)))) (sIf (bVal (xBin (gEqX false) (xBin gSubX (xFld C_Sliding "plate" (xName 0)) (xBin gAdd (xName 1) (xC (.int 1)))) (xUn gNeg (xBin gSubX (xFld C_Sliding "plate" (xName 0)) (xName 1))))) (sAug 1 (fun i j => i + j) (xC (.int 2))) (sMm 0 C_Sliding "slide" 2 g_Sliding_slide (aCons (xName 1) (aCons (xC (.bl true)) aNil)))))))
set_option maxHeartbeats 8000000 in
theorem den_Sliding_run {P : Program} {w : World} {K : PySem.W.Frag} {mg : Str → Option Value} {base : Heap} {C_Sliding : Addr} {g_Sliding_handle : GO} {g_Sliding_linked : GN} {g_Sliding_slide : GO} (m_len : mg "len" = none)  (cl_Sliding : Cls K C_Sliding) (na_Sliding_plate : NoAttr K C_Sliding "plate") (F_Sliding_handle : FnM P w K mg base C_Sliding 5 "handle" 3 g_Sliding_handle) (F_Sliding_linked : FnP P w K mg base C_Sliding 1 "linked" 2 g_Sliding_linked) (F_Sliding_slide : FnM P w K mg base C_Sliding 3 "slide" 2 g_Sliding_slide) {qual : Str} {f : Addr} (cdv : Value) (A : Around) (outer : List Env) (s : Shared) (H : Hp) (E : XK) (hr : Room 5 (A.deeper (envOfC qual (defScope s_Sliding_run) s.heap.objs.size f cdv)))  :
    ∃ t, DSs K (cxOf CX0 P w K mg base ["self", "done", "found"] qual (defScope s_Sliding_run) f cdv A outer s H E).nox true (defBody s_Sliding_run) t (b_Sliding_run C_Sliding g_Sliding_handle g_Sliding_linked g_Sliding_slide) := by
  have hnd : (["self", "done", "found"] : List Str).Nodup := by decide +kernel
  exact ⟨_, (ds_cons (ds_par 1 2 (da_cons dx_int (da_cons (dx_pm F_Sliding_linked cl_Sliding hr (dx_name 0) (da_cons dx_int da_nil)) da_nil))) (ds_cons (ds_while 1000 (dt_cmp op_notN o_notN (dx_name 2) dx_non (by first | rfl | exact nobehind _ (by decide) (by decide))) (ds_cons (ds_mm 0 F_Sliding_handle cl_Sliding hr (da_cons (dx_sub hr (dx_name 2) dx_int) (da_cons (dx_sub hr (dx_name 2) dx_int) (da_cons (dx_name 1) da_nil)))) (ds_cons (ds_aug 1 dx_int ip_add) (ds_one (ds_set 2 (dx_pm F_Sliding_linked cl_Sliding hr (dx_name 0) (da_cons (dx_name 1) da_nil))))))) (ds_one (ds_while 1000 (dt_cmp op_lt o_lt (dx_name 1) (dx_callB call_len_seq on_len m_len rfl boot_len (da_cons (dx_fld cl_Sliding na_Sliding_plate (dx_name 0)) da_nil)) (by first | rfl | exact nobehind _ (by decide) (by decide))) (ds_one (ds_if (dt_cmp (opr_eq (room_eq hr)) o_eqX (dx_sub hr (dx_fld cl_Sliding na_Sliding_plate (dx_name 0)) (dx_bin opr_add o_add (dx_name 1) dx_int)) (dx_un un_neg o_neg (dx_sub hr (dx_fld cl_Sliding na_Sliding_plate (dx_name 0)) (dx_name 1))) (by first | rfl | exact nobehind _ (by decide) (by decide))) (ds_one (ds_aug 1 dx_int ip_add)) (ds_one (ds_mm 0 F_Sliding_slide cl_Sliding hr (da_cons (dx_name 1) (da_cons dx_bl da_nil))))))))))⟩
def g_Sliding_run (C_Sliding : Addr) : GO := runM ["self", "done", "found"] (b_Sliding_run C_Sliding (g_Sliding_handle C_Sliding) (g_Sliding_linked C_Sliding) (g_Sliding_slide C_Sliding))
abbrev s_told_plate : Stmt := topS 16
theorem sc_told_plate : FnScope ["plate", "found"] ["plate"] (defScope s_told_plate) := ⟨rfl, rfl, rfl, by decide +kernel, rfl, by decide +kernel, by decide +kernel⟩
def b_told_plate (C_Sliding : Addr) (g_Sliding___init__ : GO) (g_Sliding_renamed : GN) (g_Sliding_run : GO) : Sx := (sSeq (sSet 1 (xMk C_Sliding 1 g_Sliding___init__ (aCons (xName 0) aNil))) (sSeq (sMm 1 C_Sliding "run" 0 g_Sliding_run aNil) (sRet (xPm C_Sliding "renamed" 1 g_Sliding_renamed (xName 1) aNil))))
set_option maxHeartbeats 8000000 in
theorem den_told_plate {P : Program} {w : World} {K : PySem.W.Frag} {mg : Str → Option Value} {base : Heap} {C_Sliding : Addr} {g_Sliding___init__ : GO} {g_Sliding_renamed : GN} {g_Sliding_run : GO}   (cl_Sliding : Cls K C_Sliding)  (F_Sliding___init__ : FnI P w K mg base C_Sliding 1 "Sliding" 1 g_Sliding___init__) (F_Sliding_renamed : FnP P w K mg base C_Sliding 3 "renamed" 1 g_Sliding_renamed) (F_Sliding_run : FnM P w K mg base C_Sliding 6 "run" 0 g_Sliding_run) {qual : Str} {f : Addr} (cdv : Value) (A : Around) (outer : List Env) (s : Shared) (H : Hp) (E : XK) (hr : Room 6 (A.deeper (envOfC qual (defScope s_told_plate) s.heap.objs.size f cdv)))  :
    ∃ t, DSs K (cxOf CX0 P w K mg base ["plate", "found"] qual (defScope s_told_plate) f cdv A outer s H E).nox false (defBody s_told_plate) t (b_told_plate C_Sliding g_Sliding___init__ g_Sliding_renamed g_Sliding_run) := by
  have hnd : (["plate", "found"] : List Str).Nodup := by decide +kernel
  exact ⟨_, (ds_cons (ds_set 1 (dx_mk F_Sliding___init__ hr (da_cons (dx_name 0) da_nil))) (ds_cons (ds_mm0 1 F_Sliding_run cl_Sliding hr) (ds_one (ds_ret (dx_pm0 F_Sliding_renamed cl_Sliding hr (dx_name 1))))))⟩
def g_told_plate (C_Sliding : Addr) : GN := runN ["plate", "found"] (b_told_plate C_Sliding (g_Sliding___init__ C_Sliding) (g_Sliding_renamed C_Sliding) (g_Sliding_run C_Sliding))
abbrev s_law : Stmt := topS 32
theorem sc_law : FnScope ["script", "source", "plate", "words", "here", "kept", "k", "turn", "some", "place", "is_ahead", "due", "late", "told", "rim", "word", "end", "over", "back", "again", "one", "j", "led", "there", "undone"] ["script"] (defScope s_law) := ⟨rfl, rfl, rfl, by decide +kernel, rfl, by decide +kernel, by decide +kernel⟩
def b_law  (g__law_drawn_ring : GS) (g__law_led : GN) (g__law_of : GS) (g__law_plate : GS) (g__law_rims : GN) (g__law_ring : GN) (g__law_slid : GN) (g__law_slides : GN) (g__law_type_plate : GN) (g_letters_put : GN) (g_slid : GN) (g_told_plate : GN) : Sx := (sSeq (sSet 2 (xCallS 2 g__law_plate (aCons (xName 1) (aCons (xC (.int 5)) aNil)))) (sSeq (sAsg (xCall gTup (aCons (xCall gTuple (aCons (xLc (iR1 (aCons (xBin gDiv (xCall gLen (aCons (xName 2) aNil)) (xC (.int 2))) aNil)) (gN 6) bYes (xCall gTup (aCons (xBin gAdd (xName 6) (xC (.int 1))) aNil)) [6]) aNil)) (aCons (xName 2) (aCons (xCall gRepr (aCons (xName 2) aNil)) aNil)))) (gT 3 (gsCons (gN 3) (gsCons (gN 4) (gsCons (gN 5) gsNil))))) (sSeq (sFor (iR1 (aCons (xC (.int 4)) aNil)) (gN 7) (sSeq (sSet 8 (xCall (gArity 1 g__law_slides) (aCons (xName 4) aNil))) (sSeq (sIf (bVal (xBin (gEqX false) (xName 8) (xLst aNil))) sBk sNx) (sSeq (sAsg (xCallS 2 g__law_of (aCons (xName 1) (aCons (xName 8) aNil))) (gT 2 (gsCons (gN 9) (gsCons (gN 10) gsNil)))) (sSeq (sSet 11 (xCall (gArity 3 g__law_slid) (aCons (xName 4) (aCons (xName 9) (aCons (xName 10) aNil))))) (sSeq (sIf (bVal (xBin (gEqX true) (xCall gRepr (aCons (xCall (gArity 3 g_slid) (aCons (xName 4) (aCons (xName 9) (aCons (xName 10) aNil)))) aNil)) (xCall gRepr (aCons (xName 11) aNil)))) (sRet (xC (.bl false))) sNx) (sSeq (sAsg (xName 11) (gT 2 (gsCons (gN 12) (gsCons (gN 13) gsNil)))) (sSeq (sIf (bVal (xBin (gEqX true) (xCall gSortT (aCons (xLc (iSeqO (xCall (gArity 1 g__law_rims) (aCons (xName 4) aNil))) (gN 14) bYes (xCall (gArity 1 g__law_ring) (aCons (xCall (gArity 2 g__law_led) (aCons (xName 13) (aCons (xName 14) aNil))) aNil)) [14]) aNil)) (xCall (gArity 1 g__law_rims) (aCons (xName 12) aNil)))) (sRet (xC (.bl false))) sNx) (sSeq (sSet 15 (xCallS 3 g__law_drawn_ring (aCons (xName 1) (aCons (xName 4) (aCons (xC (.int 6)) aNil))))) (sSeq (sIf (bVal (xBin (gEqX true) (xCall gRepr (aCons (xCall (gArity 2 g_letters_put) (aCons (xName 13) (aCons (xName 15) aNil))) aNil)) (xCall gRepr (aCons (xCall (gArity 2 g__law_led) (aCons (xName 13) (aCons (xName 15) aNil))) aNil)))) (sRet (xC (.bl false))) sNx) (sSeq (sParN [16, 17] (aCons (xBin gSubX (xName 4) (xName 9)) (aCons (xBin gSubX (xName 4) (xBin gMod (xCall gInt1 (aCons (xBin gAdd (xName 9) (xIf (bVal (xName 10)) (xC (.int 1)) (xBin gSub (xCall gLen (aCons (xName 4) aNil)) (xC (.int 1))))) aNil)) (xCall gLen (aCons (xName 4) aNil)))) aNil))) (sSeq (sAsg (xCall (gArity 3 g_slid) (aCons (xName 12) (aCons (xBm gIdx (xName 12) (aCons (xName 16) aNil)) (aCons (xNot (xName 10)) aNil)))) (gT 2 (gsCons (gN 18) (gsCons (gN 19) gsNil)))) (sSeq (sSet 6 (xBm gIdx (xName 18) (aCons (xBin gSubX (xName 4) (xC (.int 0))) aNil))) (sSeq (sIf (bVal (xBin (gEqX true) (xBin gAdd (xSl gSl (xName 18) (oSome (xName 6)) oNone) (xSl gSl (xName 18) oNone (oSome (xName 6)))) (xName 4))) (sRet (xC (.bl false))) sNx) (sSeq (sIf (bVal (xBin (gEqX true) (xLc (iSeqO (xName 13)) (gN 20) bYes (xCall (gArity 2 g__law_led) (aCons (xName 19) (aCons (xName 20) aNil))) [20]) (xLc (iR1 (aCons (xCall gLen (aCons (xName 13) aNil)) aNil)) (gN 21) bYes (xCall gTup (aCons (xBin gAdd (xName 21) (xC (.int 1))) aNil)) [21]))) (sRet (xC (.bl false))) sNx) (sAsg (xCall gTup (aCons (xCall gTuple (aCons (xLc (iSeqO (xName 3)) (gN 20) bYes (xCall (gArity 2 g__law_led) (aCons (xName 13) (aCons (xName 20) aNil))) [20]) aNil)) (aCons (xName 12) aNil))) (gT 2 (gsCons (gN 3) (gsCons (gN 4) gsNil))))))))))))))))))) (sSeq (sIf (bVal (xBin (gEqX true) (xCall gSortT (aCons (xLc (iSeqO (xCall (gArity 1 g__law_rims) (aCons (xName 2) aNil))) (gN 14) bYes (xCall (gArity 1 g__law_ring) (aCons (xCall (gArity 2 g__law_led) (aCons (xName 3) (aCons (xName 14) aNil))) aNil)) [14]) aNil)) (xCall (gArity 1 g__law_rims) (aCons (xName 4) aNil)))) (sRet (xC (.bl false))) sNx) (sSeq (sFor (iSeq (xCall gTup (aCons (xName 2) (aCons (xName 4) aNil)))) (gN 20) (sSeq (sAsg (xCall (gArity 1 g_told_plate) (aCons (xName 20) aNil)) (gT 3 (gsCons (gN 22) (gsCons (gN 23) (gsCons (gN 24) gsNil))))) (sSeq (sIf (bOr (bVal (xBin (gEqX true) (xCall gRepr (aCons (xName 22) aNil)) (xCall gRepr (aCons (xCall (gArity 1 g__law_type_plate) (aCons (xName 20) aNil)) aNil)))) (bVal (xBin (gEqX true) (xLst (aCons (xCall gLen (aCons (xName 23) aNil)) (aCons (xCall gLen (aCons (xName 24) aNil)) aNil))) (xBin gMul (xLst (aCons (xBin gDiv (xCall gLen (aCons (xName 20) aNil)) (xC (.int 2))) aNil)) (xC (.int 2)))))) (sRet (xC (.bl false))) sNx) (sSeq (sIf (bVal (xBin (gEqX true) (xLc (iSeqO (xName 23)) (gN 15) bYes (xCall (gArity 2 g__law_led) (aCons (xName 24) (aCons (xName 15) aNil))) [15]) (xLc (iR1 (aCons (xBin gDiv (xCall gLen (aCons (xName 20) aNil)) (xC (.int 2))) aNil)) (gN 6) bYes (xCall gTup (aCons (xBin gAdd (xName 6) (xC (.int 1))) aNil)) [6]))) (sRet (xC (.bl false))) sNx) (sSeq (sIf (bVal (xBin (gEqX true) (xLc (iSeqO (xName 24)) (gN 15) bYes (xCall (gArity 2 g__law_led) (aCons (xName 23) (aCons (xName 15) aNil))) [15]) (xLc (iR1 (aCons (xBin gDiv (xCall gLen (aCons (xName 20) aNil)) (xC (.int 2))) aNil)) (gN 6) bYes (xCall gTup (aCons (xBin gAdd (xName 6) (xC (.int 1))) aNil)) [6]))) (sRet (xC (.bl false))) sNx) (sIf (bVal (xBin (gEqX true) (xCall gSortT (aCons (xLc (iSeqO (xCall (gArity 1 g__law_rims) (aCons (xName 20) aNil))) (gN 14) bYes (xCall (gArity 1 g__law_ring) (aCons (xCall (gArity 2 g__law_led) (aCons (xName 23) (aCons (xName 14) aNil))) aNil)) [14]) aNil)) (xCall (gArity 1 g__law_rims) (aCons (xName 22) aNil)))) (sRet (xC (.bl false))) sNx)))))) (sRet (xBin (gEqX false) (xCall gRepr (aCons (xName 2) aNil)) (xName 5))))))))
set_option maxHeartbeats 8000000 in
theorem den_law {P : Program} {w : World} {K : PySem.W.Frag} {mg : Str → Option Value} {base : Heap}  {g__law_drawn_ring : GS} {g__law_led : GN} {g__law_of : GS} {g__law_plate : GS} {g__law_rims : GN} {g__law_ring : GN} {g__law_slid : GN} {g__law_slides : GN} {g__law_type_plate : GN} {g_letters_put : GN} {g_slid : GN} {g_told_plate : GN} (m_len : mg "len" = none) (m_int : mg "int" = none) (m_tuple : mg "tuple" = none) (m_repr : mg "repr" = none) (m_sorted : mg "sorted" = none) (m_range : mg "range" = none)    (F__law_drawn_ring : FnS P w K mg base 3 "_law_drawn_ring" 3 g__law_drawn_ring) (F__law_led : FnD P w K mg base 2 "_law_led" 2 g__law_led) (F__law_of : FnS P w K mg base 2 "_law_of" 2 g__law_of) (F__law_plate : FnS P w K mg base 3 "_law_plate" 2 g__law_plate) (F__law_rims : FnD P w K mg base 3 "_law_rims" 1 g__law_rims) (F__law_ring : FnD P w K mg base 2 "_law_ring" 1 g__law_ring) (F__law_slid : FnD P w K mg base 1 "_law_slid" 3 g__law_slid) (F__law_slides : FnD P w K mg base 1 "_law_slides" 1 g__law_slides) (F__law_type_plate : FnD P w K mg base 4 "_law_type_plate" 1 g__law_type_plate) (F_letters_put : FnD P w K mg base 2 "letters_put" 2 g_letters_put) (F_slid : FnD P w K mg base 2 "slid" 3 g_slid) (F_told_plate : FnD P w K mg base 7 "told_plate" 1 g_told_plate) {qual : Str} {f : Addr} (cdv : Value) (A : Around) (outer : List Env) (s : Shared) (H : Hp) (E : XK) (hr : Room 7 (A.deeper (envOfC qual (defScope s_law) s.heap.objs.size f cdv))) (hgd : (A.deeper (envOfC qual (defScope s_law) s.heap.objs.size f cdv)).guards = some []) :
    ∃ t, DSs K (cxOf CX0 P w K mg base ["script", "source", "plate", "words", "here", "kept", "k", "turn", "some", "place", "is_ahead", "due", "late", "told", "rim", "word", "end", "over", "back", "again", "one", "j", "led", "there", "undone"] qual (defScope s_law) f cdv A outer s H E).nox false ((defBody s_law).drop 1) t (b_law g__law_drawn_ring g__law_led g__law_of g__law_plate g__law_rims g__law_ring g__law_slid g__law_slides g__law_type_plate g_letters_put g_slid g_told_plate) := by
  have hnd : (["script", "source", "plate", "words", "here", "kept", "k", "turn", "some", "place", "is_ahead", "due", "late", "told", "rim", "word", "end", "over", "back", "again", "one", "j", "led", "there", "undone"] : List Str).Nodup := by decide +kernel
  exact ⟨_, (ds_cons (ds_set 2 (fns_call F__law_plate hr (da_cons (dx_name 1) (da_cons dx_int da_nil)))) (ds_cons (ds_asg (q := false) (dx_tup (da_cons (dx_callT call_tupleF on_tuple m_tuple rfl boot_tuple (da_cons (dx_lc (own := [("k", 6)]) (DI.w (di_r1 (da_cons (dx_bin op_fdiv o_div (dx_callB call_len_seq on_len m_len rfl boot_len (da_cons (dx_name 2) da_nil)) dx_int) da_nil) m_range)) (blkOk_by rfl) (fun _ _ _ _ _ => (dg_name 6)) (fun _ _ _ _ _ => dts_nil) (fun _ _ _ _ _ => (dx_tup (da_cons (dx_bin opr_add o_add (dx_name 6) dx_int) da_nil)))) da_nil)) (da_cons (dx_name 2) (da_cons (dx_callB (cr_repr hgd (room70 hr)) on_repr m_repr rfl boot_repr (da_cons (dx_name 2) da_nil)) da_nil)))) (dg_tup (dgs_cons (dg_name 3) (dgs_cons (dg_name 4) (dgs_cons (dg_name 5) dgs_nil))))) (ds_cons (ds_for (q := false) (di_r1 (da_cons dx_int da_nil) m_range) (dg_name 7) (ds_cons (ds_set 8 (fnd_call F__law_slides hr (da_cons (dx_name 4) da_nil))) (ds_cons (ds_if (dt_cmp (opr_eq (room_eq hr)) o_eqX (dx_name 8) (dx_lst da_nil) (by first | rfl | exact nobehind _ (by decide) (by decide))) (ds_one ds_break) ds_nil) (ds_cons (ds_asg (q := false) (fns_call F__law_of hr (da_cons (dx_name 1) (da_cons (dx_name 8) da_nil))) (dg_tup (dgs_cons (dg_name 9) (dgs_cons (dg_name 10) dgs_nil)))) (ds_cons (ds_set 11 (fnd_call F__law_slid hr (da_cons (dx_name 4) (da_cons (dx_name 9) (da_cons (dx_name 10) da_nil))))) (ds_cons (ds_if (dt_cmp (opr_ne (room_eq hr)) o_neX (dx_callB (cr_repr hgd (room70 hr)) on_repr m_repr rfl boot_repr (da_cons (fnd_call F_slid hr (da_cons (dx_name 4) (da_cons (dx_name 9) (da_cons (dx_name 10) da_nil)))) da_nil)) (dx_callB (cr_repr hgd (room70 hr)) on_repr m_repr rfl boot_repr (da_cons (dx_name 11) da_nil)) (by first | rfl | exact nobehind _ (by decide) (by decide))) (ds_one (ds_ret dx_bl)) ds_nil) (ds_cons (ds_asg (q := false) (dx_name 11) (dg_tup (dgs_cons (dg_name 12) (dgs_cons (dg_name 13) dgs_nil)))) (ds_cons (ds_if (dt_cmp (opr_ne (room_eq hr)) o_neX (dx_callB (cr_sortT (room_eq hr)) on_sortT m_sorted rfl boot_sorted (da_cons (dx_lc (own := [("rim", 14)]) (di_seqO (fnd_call F__law_rims hr (da_cons (dx_name 4) da_nil))) (blkOk_by rfl) (fun _ _ _ _ _ => (dg_name 14)) (fun _ _ _ _ _ => dts_nil) (fun _ _ _ _ _ => (fnd_call F__law_ring hr (da_cons (fnd_call F__law_led hr (da_cons (dx_name 13) (da_cons (dx_name 14) da_nil))) da_nil)))) da_nil)) (fnd_call F__law_rims hr (da_cons (dx_name 12) da_nil)) (by first | rfl | exact nobehind _ (by decide) (by decide))) (ds_one (ds_ret dx_bl)) ds_nil) (ds_cons (ds_set 15 (fns_call F__law_drawn_ring hr (da_cons (dx_name 1) (da_cons (dx_name 4) (da_cons dx_int da_nil))))) (ds_cons (ds_if (dt_cmp (opr_ne (room_eq hr)) o_neX (dx_callB (cr_repr hgd (room70 hr)) on_repr m_repr rfl boot_repr (da_cons (fnd_call F_letters_put hr (da_cons (dx_name 13) (da_cons (dx_name 15) da_nil))) da_nil)) (dx_callB (cr_repr hgd (room70 hr)) on_repr m_repr rfl boot_repr (da_cons (fnd_call F__law_led hr (da_cons (dx_name 13) (da_cons (dx_name 15) da_nil))) da_nil)) (by first | rfl | exact nobehind _ (by decide) (by decide))) (ds_one (ds_ret dx_bl)) ds_nil) (ds_cons (ds_par 16 17 (da_cons (dx_sub hr (dx_name 4) (dx_name 9)) (da_cons (dx_sub hr (dx_name 4) (dx_bin op_mod o_mod (dx_callT call_int1 on_int1 m_int rfl boot_int (da_cons (dx_bin opr_add o_add (dx_name 9) (dx_if (dt_val (dx_name 10)) dx_int (dx_bin op_sub o_sub (dx_callB call_len_seq on_len m_len rfl boot_len (da_cons (dx_name 4) da_nil)) dx_int))) da_nil)) (dx_callB call_len_seq on_len m_len rfl boot_len (da_cons (dx_name 4) da_nil)))) da_nil))) (ds_cons (ds_asg (q := false) (fnd_call F_slid hr (da_cons (dx_name 12) (da_cons (dx_idx (dx_name 12) (da_cons (dx_name 16) da_nil)) (da_cons (dx_not (dx_name 10)) da_nil)))) (dg_tup (dgs_cons (dg_name 18) (dgs_cons (dg_name 19) dgs_nil)))) (ds_cons (ds_set 6 (dx_idx (dx_name 18) (da_cons (dx_sub hr (dx_name 4) dx_int) da_nil))) (ds_cons (ds_if (dt_cmp (opr_ne (room_eq hr)) o_neX (dx_bin opr_add o_add (dx_sl slr o_sl (dx_name 18) (do_some (dx_name 6)) do_none) (dx_sl slr o_sl (dx_name 18) do_none (do_some (dx_name 6)))) (dx_name 4) (by first | rfl | exact nobehind _ (by decide) (by decide))) (ds_one (ds_ret dx_bl)) ds_nil) (ds_cons (ds_if (dt_cmp (opr_ne (room_eq hr)) o_neX (dx_lc (own := [("one", 20)]) (di_seqO (dx_name 13)) (blkOk_by rfl) (fun _ _ _ _ _ => (dg_name 20)) (fun _ _ _ _ _ => dts_nil) (fun _ _ _ _ _ => (fnd_call F__law_led hr (da_cons (dx_name 19) (da_cons (dx_name 20) da_nil))))) (dx_lc (own := [("j", 21)]) (DI.w (di_r1 (da_cons (dx_callB call_len_seq on_len m_len rfl boot_len (da_cons (dx_name 13) da_nil)) da_nil) m_range)) (blkOk_by rfl) (fun _ _ _ _ _ => (dg_name 21)) (fun _ _ _ _ _ => dts_nil) (fun _ _ _ _ _ => (dx_tup (da_cons (dx_bin opr_add o_add (dx_name 21) dx_int) da_nil)))) (by first | rfl | exact nobehind _ (by decide) (by decide))) (ds_one (ds_ret dx_bl)) ds_nil) (ds_one (ds_asg (q := false) (dx_tup (da_cons (dx_callT call_tupleF on_tuple m_tuple rfl boot_tuple (da_cons (dx_lc (own := [("one", 20)]) (di_seqO (dx_name 3)) (blkOk_by rfl) (fun _ _ _ _ _ => (dg_name 20)) (fun _ _ _ _ _ => dts_nil) (fun _ _ _ _ _ => (fnd_call F__law_led hr (da_cons (dx_name 13) (da_cons (dx_name 20) da_nil))))) da_nil)) (da_cons (dx_name 12) da_nil))) (dg_tup (dgs_cons (dg_name 3) (dgs_cons (dg_name 4) dgs_nil)))))))))))))))))))) (ds_cons (ds_if (dt_cmp (opr_ne (room_eq hr)) o_neX (dx_callB (cr_sortT (room_eq hr)) on_sortT m_sorted rfl boot_sorted (da_cons (dx_lc (own := [("rim", 14)]) (di_seqO (fnd_call F__law_rims hr (da_cons (dx_name 2) da_nil))) (blkOk_by rfl) (fun _ _ _ _ _ => (dg_name 14)) (fun _ _ _ _ _ => dts_nil) (fun _ _ _ _ _ => (fnd_call F__law_ring hr (da_cons (fnd_call F__law_led hr (da_cons (dx_name 3) (da_cons (dx_name 14) da_nil))) da_nil)))) da_nil)) (fnd_call F__law_rims hr (da_cons (dx_name 4) da_nil)) (by first | rfl | exact nobehind _ (by decide) (by decide))) (ds_one (ds_ret dx_bl)) ds_nil) (ds_cons (ds_for (q := false) (di_seq (dx_tup (da_cons (dx_name 2) (da_cons (dx_name 4) da_nil)))) (dg_name 20) (ds_cons (ds_asg (q := false) (fnd_call F_told_plate hr (da_cons (dx_name 20) da_nil)) (dg_tup (dgs_cons (dg_name 22) (dgs_cons (dg_name 23) (dgs_cons (dg_name 24) dgs_nil))))) (ds_cons (ds_if (DW.dt (dw_or (dt_cmp (opr_ne (room_eq hr)) o_neX (dx_callB (cr_repr hgd (room70 hr)) on_repr m_repr rfl boot_repr (da_cons (dx_name 22) da_nil)) (dx_callB (cr_repr hgd (room70 hr)) on_repr m_repr rfl boot_repr (da_cons (fnd_call F__law_type_plate hr (da_cons (dx_name 20) da_nil)) da_nil)) (by first | rfl | exact nobehind _ (by decide) (by decide))) (dw_or1 (dt_cmp (opr_ne (room_eq hr)) o_neX (dx_lst (da_cons (dx_callB call_len_seq on_len m_len rfl boot_len (da_cons (dx_name 23) da_nil)) (da_cons (dx_callB call_len_seq on_len m_len rfl boot_len (da_cons (dx_name 24) da_nil)) da_nil))) (dx_bin opr_mul o_mul (dx_lst (da_cons (dx_bin op_fdiv o_div (dx_callB call_len_seq on_len m_len rfl boot_len (da_cons (dx_name 20) da_nil)) dx_int) da_nil)) dx_int) (by first | rfl | exact nobehind _ (by decide) (by decide)))))) (ds_one (ds_ret dx_bl)) ds_nil) (ds_cons (ds_if (dt_cmp (opr_ne (room_eq hr)) o_neX (dx_lc (own := [("word", 15)]) (di_seqO (dx_name 23)) (blkOk_by rfl) (fun _ _ _ _ _ => (dg_name 15)) (fun _ _ _ _ _ => dts_nil) (fun _ _ _ _ _ => (fnd_call F__law_led hr (da_cons (dx_name 24) (da_cons (dx_name 15) da_nil))))) (dx_lc (own := [("k", 6)]) (DI.w (di_r1 (da_cons (dx_bin op_fdiv o_div (dx_callB call_len_seq on_len m_len rfl boot_len (da_cons (dx_name 20) da_nil)) dx_int) da_nil) m_range)) (blkOk_by rfl) (fun _ _ _ _ _ => (dg_name 6)) (fun _ _ _ _ _ => dts_nil) (fun _ _ _ _ _ => (dx_tup (da_cons (dx_bin opr_add o_add (dx_name 6) dx_int) da_nil)))) (by first | rfl | exact nobehind _ (by decide) (by decide))) (ds_one (ds_ret dx_bl)) ds_nil) (ds_cons (ds_if (dt_cmp (opr_ne (room_eq hr)) o_neX (dx_lc (own := [("word", 15)]) (di_seqO (dx_name 24)) (blkOk_by rfl) (fun _ _ _ _ _ => (dg_name 15)) (fun _ _ _ _ _ => dts_nil) (fun _ _ _ _ _ => (fnd_call F__law_led hr (da_cons (dx_name 23) (da_cons (dx_name 15) da_nil))))) (dx_lc (own := [("k", 6)]) (DI.w (di_r1 (da_cons (dx_bin op_fdiv o_div (dx_callB call_len_seq on_len m_len rfl boot_len (da_cons (dx_name 20) da_nil)) dx_int) da_nil) m_range)) (blkOk_by rfl) (fun _ _ _ _ _ => (dg_name 6)) (fun _ _ _ _ _ => dts_nil) (fun _ _ _ _ _ => (dx_tup (da_cons (dx_bin opr_add o_add (dx_name 6) dx_int) da_nil)))) (by first | rfl | exact nobehind _ (by decide) (by decide))) (ds_one (ds_ret dx_bl)) ds_nil) (ds_one (ds_if (dt_cmp (opr_ne (room_eq hr)) o_neX (dx_callB (cr_sortT (room_eq hr)) on_sortT m_sorted rfl boot_sorted (da_cons (dx_lc (own := [("rim", 14)]) (di_seqO (fnd_call F__law_rims hr (da_cons (dx_name 20) da_nil))) (blkOk_by rfl) (fun _ _ _ _ _ => (dg_name 14)) (fun _ _ _ _ _ => dts_nil) (fun _ _ _ _ _ => (fnd_call F__law_ring hr (da_cons (fnd_call F__law_led hr (da_cons (dx_name 23) (da_cons (dx_name 14) da_nil))) da_nil)))) da_nil)) (fnd_call F__law_rims hr (da_cons (dx_name 22) da_nil)) (by first | rfl | exact nobehind _ (by decide) (by decide))) (ds_one (ds_ret dx_bl)) ds_nil))))))) (ds_one (ds_ret (dx_cmp (opr_eq (room_eq hr)) o_eqX (dx_callB (cr_repr hgd (room70 hr)) on_repr m_repr rfl boot_repr (da_cons (dx_name 2) da_nil)) (dx_name 5) (by first | rfl | exact nobehind _ (by decide) (by decide))))))))))⟩
def bl (C_Sliding : Addr) : Sx := b_law (g__law_drawn_ring C_Sliding) (g__law_led C_Sliding) (g__law_of C_Sliding) (g__law_plate C_Sliding) (g__law_rims C_Sliding) (g__law_ring C_Sliding) (g__law_slid C_Sliding) (g__law_slides C_Sliding) (g__law_type_plate C_Sliding) (g_letters_put C_Sliding) (g_slid C_Sliding) (g_told_plate C_Sliding)
structure Facts (K : PySem.W.Frag) (mg : Str → Option Value) (C_Sliding : Addr) : Prop where
  m_len : mg "len" = none
  m_MOST_LETTERS : ∃ t, mg "MOST_LETTERS" = some (.int 400 t)
  d_not_long : Def1 K mg "not_long" s_not_long ["word"]
  m_tuple : mg "tuple" = none
  d_word_low : Def1 K mg "word_low" s_word_low ["letters"]
  d_word_undone : Def1 K mg "word_undone" s_word_undone ["word"]
  d_slid_ends : Def1 K mg "slid_ends" s_slid_ends ["plate", "place", "is_ahead"]
  d_end_word : Def1 K mg "end_word" s_end_word ["end", "over"]
  m_list : mg "list" = none
  m_range : mg "range" = none
  cl_Sliding : Cls K C_Sliding
  na_Sliding_plate : NoAttr K C_Sliding "plate"
  na_Sliding_words : NoAttr K C_Sliding "words"
  na_Sliding_backs : NoAttr K C_Sliding "backs"
  d_Sliding___init__ : Def3 K mg C_Sliding "__init__" "Sliding.__init__" "Sliding" s_Sliding___init__ ["self", "plate"]
  m_enumerate : mg "enumerate" = none
  d_Sliding_linked : Def2 K C_Sliding "linked" "Sliding.linked" s_Sliding_linked ["self", "done"]
  m_abs : mg "abs" = none
  m_int : mg "int" = none
  d__law_source : Def1 K mg "_law_source" s__law_source ["script"]
  m_max : mg "max" = none
  d__law_pick : Def1 K mg "_law_pick" s__law_pick ["source", "many"]
  d__law_word_low : Def1 K mg "_law_word_low" s__law_word_low ["letters"]
  d__law_undone : Def1 K mg "_law_undone" s__law_undone ["word"]
  d__law_slid : Def1 K mg "_law_slid" s__law_slid ["plate", "place", "is_ahead"]
  d__law_slides : Def1 K mg "_law_slides" s__law_slides ["plate"]
  d_slid : Def1 K mg "slid" s_slid ["plate", "place", "is_ahead"]
  d_letters_put : Def1 K mg "letters_put" s_letters_put ["words", "word"]
  d__law_of : Def1 K mg "_law_of" s__law_of ["source", "some"]
  d__law_mixed : Def1 K mg "_law_mixed" s__law_mixed ["source", "things"]
  m_min : mg "min" = none
  d__law_ring : Def1 K mg "_law_ring" s__law_ring ["word"]
  d__law_led : Def1 K mg "_law_led" s__law_led ["words", "word"]
  d_Sliding_slide : Def2 K C_Sliding "slide" "Sliding.slide" s_Sliding_slide ["self", "place", "is_ahead"]
  d_Sliding_renamed : Def2 K C_Sliding "renamed" "Sliding.renamed" s_Sliding_renamed ["self"]
  d__law_plate : Def1 K mg "_law_plate" s__law_plate ["source", "most"]
  d__law_drawn_ring : Def1 K mg "_law_drawn_ring" s__law_drawn_ring ["source", "plate", "most"]
  m_dict : mg "dict" = none
  m_sorted : mg "sorted" = none
  d__law_rims : Def1 K mg "_law_rims" s__law_rims ["plate"]
  d_Sliding_gathered : Def2 K C_Sliding "gathered" "Sliding.gathered" s_Sliding_gathered ["self", "start", "end"]
  d__law_type_plate : Def1 K mg "_law_type_plate" s__law_type_plate ["plate"]
  d_Sliding_handle : Def2 K C_Sliding "handle" "Sliding.handle" s_Sliding_handle ["self", "one", "other", "done"]
  d_Sliding_run : Def2 K C_Sliding "run" "Sliding.run" s_Sliding_run ["self"]
  d_told_plate : Def1 K mg "told_plate" s_told_plate ["plate"]
  m_repr : mg "repr" = none
section
variable {P : Program} {w : World} {K : PySem.W.Frag} {mg : Str → Option Value} {base : Heap} {C_Sliding : Addr}
theorem F_not_long (T : Facts K mg C_Sliding) : FnD P w K mg base 1 "not_long" 1 (g_not_long C_Sliding) := fnd_run T.d_not_long sc_not_long rfl fun f cdv A outer s H E hr => den_not_long T.m_len T.m_MOST_LETTERS cdv A outer s H E hr
theorem F_word_low (T : Facts K mg C_Sliding) : FnD P w K mg base 1 "word_low" 1 (g_word_low C_Sliding) := fnd_run T.d_word_low sc_word_low rfl fun f cdv A outer s H E hr => den_word_low T.m_tuple cdv A outer s H E hr
theorem F_word_undone (T : Facts K mg C_Sliding) : FnD P w K mg base 1 "word_undone" 1 (g_word_undone C_Sliding) := fnd_run T.d_word_undone sc_word_undone rfl fun f cdv A outer s H E hr => den_word_undone T.m_tuple cdv A outer s H E hr
theorem F_slid_ends (T : Facts K mg C_Sliding) : FnD P w K mg base 1 "slid_ends" 3 (g_slid_ends C_Sliding) := fnd_run T.d_slid_ends sc_slid_ends rfl fun f cdv A outer s H E hr => den_slid_ends T.m_len T.m_tuple cdv A outer s H E hr
theorem F_end_word (T : Facts K mg C_Sliding) : FnD P w K mg base 1 "end_word" 2 (g_end_word C_Sliding) := fnd_run T.d_end_word sc_end_word rfl fun f cdv A outer s H E hr => den_end_word  cdv A outer s H E hr
theorem F_Sliding___init__ (T : Facts K mg C_Sliding) : FnI P w K mg base C_Sliding 1 "Sliding" 1 (g_Sliding___init__ C_Sliding) := fni_run T.d_Sliding___init__ sc_Sliding___init__ rfl fun f cdv A outer s H E hr => den_Sliding___init__ T.m_len T.m_list T.m_range T.cl_Sliding T.na_Sliding_plate T.na_Sliding_words T.na_Sliding_backs cdv A outer s H E hr
theorem F_Sliding_linked (T : Facts K mg C_Sliding) : FnP P w K mg base C_Sliding 1 "linked" 2 (g_Sliding_linked C_Sliding) := fnp_run T.d_Sliding_linked sc_Sliding_linked rfl fun f cdv A outer s H E hr => den_Sliding_linked T.m_range T.m_enumerate T.cl_Sliding T.na_Sliding_plate cdv A outer s H E hr
theorem F__law_pick (T : Facts K mg C_Sliding) : FnS P w K mg base 1 "_law_pick" 2 (g__law_pick C_Sliding) := fns_run T.d__law_pick sc__law_pick rfl fun f cdv A outer s H E hr => den__law_pick T.m_len T.m_int T.m_max cdv A outer s H E hr
theorem F__law_word_low (T : Facts K mg C_Sliding) : FnD P w K mg base 1 "_law_word_low" 1 (g__law_word_low C_Sliding) := fnd_run T.d__law_word_low sc__law_word_low rfl fun f cdv A outer s H E hr => den__law_word_low T.m_tuple cdv A outer s H E hr
theorem F__law_undone (T : Facts K mg C_Sliding) : FnD P w K mg base 1 "_law_undone" 1 (g__law_undone C_Sliding) := fnd_run T.d__law_undone sc__law_undone rfl fun f cdv A outer s H E hr => den__law_undone T.m_tuple cdv A outer s H E hr
theorem F__law_slid (T : Facts K mg C_Sliding) : FnD P w K mg base 1 "_law_slid" 3 (g__law_slid C_Sliding) := fnd_run T.d__law_slid sc__law_slid rfl fun f cdv A outer s H E hr => den__law_slid T.m_len T.m_abs T.m_int T.m_tuple T.m_range cdv A outer s H E hr
theorem F__law_slides (T : Facts K mg C_Sliding) : FnD P w K mg base 1 "_law_slides" 1 (g__law_slides C_Sliding) := fnd_run T.d__law_slides sc__law_slides rfl fun f cdv A outer s H E hr => den__law_slides T.m_len T.m_int T.m_range cdv A outer s H E hr
theorem F_slid (T : Facts K mg C_Sliding) : FnD P w K mg base 2 "slid" 3 (g_slid C_Sliding) := fnd_run T.d_slid sc_slid rfl fun f cdv A outer s H E hr => den_slid T.m_len T.m_abs T.m_tuple T.m_range (F_end_word T) (F_slid_ends T) cdv A outer s H E hr
theorem F_letters_put (T : Facts K mg C_Sliding) : FnD P w K mg base 2 "letters_put" 2 (g_letters_put C_Sliding) := fnd_run T.d_letters_put sc_letters_put rfl fun f cdv A outer s H E hr => den_letters_put T.m_tuple (F_not_long T) (F_word_low T) (F_word_undone T) cdv A outer s H E hr
theorem F__law_of (T : Facts K mg C_Sliding) : FnS P w K mg base 2 "_law_of" 2 (g__law_of C_Sliding) := fns_run T.d__law_of sc__law_of rfl fun f cdv A outer s H E hr => den__law_of T.m_len (F__law_pick T) cdv A outer s H E hr
theorem F__law_mixed (T : Facts K mg C_Sliding) : FnS P w K mg base 2 "_law_mixed" 2 (g__law_mixed C_Sliding) := fns_run T.d__law_mixed sc__law_mixed rfl fun f cdv A outer s H E hr => den__law_mixed T.m_len T.m_list T.m_range (F__law_pick T) cdv A outer s H E hr
theorem F__law_ring (T : Facts K mg C_Sliding) : FnD P w K mg base 2 "_law_ring" 1 (g__law_ring C_Sliding) := fnd_run T.d__law_ring sc__law_ring rfl fun f cdv A outer s H E hr => den__law_ring T.m_len T.m_min T.m_range (F__law_word_low T) cdv A outer s H E hr
theorem F__law_led (T : Facts K mg C_Sliding) : FnD P w K mg base 2 "_law_led" 2 (g__law_led C_Sliding) := fnd_run T.d__law_led sc__law_led rfl fun f cdv A outer s H E hr => den__law_led (F__law_undone T) (F__law_word_low T) cdv A outer s H E hr
theorem F_Sliding_slide (T : Facts K mg C_Sliding) : FnM P w K mg base C_Sliding 3 "slide" 2 (g_Sliding_slide C_Sliding) := fnm_run T.d_Sliding_slide sc_Sliding_slide rfl fun f cdv A outer s H E hr => den_Sliding_slide T.m_len T.m_abs T.m_range T.cl_Sliding T.na_Sliding_plate T.na_Sliding_words T.na_Sliding_backs (F_end_word T) (F_letters_put T) (F_slid_ends T) (F_word_undone T) cdv A outer s H E hr
theorem F_Sliding_renamed (T : Facts K mg C_Sliding) : FnP P w K mg base C_Sliding 3 "renamed" 1 (g_Sliding_renamed C_Sliding) := fnp_run T.d_Sliding_renamed sc_Sliding_renamed rfl fun f cdv A outer s H E hr => den_Sliding_renamed T.m_len T.m_abs T.m_tuple T.m_enumerate T.cl_Sliding T.na_Sliding_plate T.na_Sliding_words T.na_Sliding_backs (F_letters_put T) cdv A outer s H E hr
theorem F__law_plate (T : Facts K mg C_Sliding) : FnS P w K mg base 3 "_law_plate" 2 (g__law_plate C_Sliding) := fns_run T.d__law_plate sc__law_plate rfl fun f cdv A outer s H E hr => den__law_plate T.m_tuple T.m_range (F__law_mixed T) (F__law_pick T) cdv A outer s H E hr
theorem F__law_drawn_ring (T : Facts K mg C_Sliding) : FnS P w K mg base 3 "_law_drawn_ring" 3 (g__law_drawn_ring C_Sliding) := fns_run T.d__law_drawn_ring sc__law_drawn_ring rfl fun f cdv A outer s H E hr => den__law_drawn_ring T.m_len T.m_range (F__law_of T) (F__law_pick T) (F__law_ring T) cdv A outer s H E hr
theorem F__law_rims (T : Facts K mg C_Sliding) : FnD P w K mg base 3 "_law_rims" 1 (g__law_rims C_Sliding) := fnd_run T.d__law_rims sc__law_rims rfl fun f cdv A outer s H E hr => den__law_rims T.m_len T.m_int T.m_dict T.m_sorted T.m_enumerate (F__law_ring T) cdv A outer s H E hr
theorem F_Sliding_gathered (T : Facts K mg C_Sliding) : FnM P w K mg base C_Sliding 4 "gathered" 2 (g_Sliding_gathered C_Sliding) := fnm_run T.d_Sliding_gathered sc_Sliding_gathered rfl fun f cdv A outer s H E hr => den_Sliding_gathered T.cl_Sliding T.na_Sliding_plate (F_Sliding_slide T) cdv A outer s H E hr
theorem F__law_type_plate (T : Facts K mg C_Sliding) : FnD P w K mg base 4 "_law_type_plate" 1 (g__law_type_plate C_Sliding) := fnd_run T.d__law_type_plate sc__law_type_plate rfl fun f cdv A outer s H E hr => den__law_type_plate T.m_len T.m_tuple T.m_range (F__law_rims T) cdv A outer s H E hr
theorem F_Sliding_handle (T : Facts K mg C_Sliding) : FnM P w K mg base C_Sliding 5 "handle" 3 (g_Sliding_handle C_Sliding) := fnm_run T.d_Sliding_handle sc_Sliding_handle rfl fun f cdv A outer s H E hr => den_Sliding_handle T.m_range T.cl_Sliding T.na_Sliding_plate (F_Sliding_gathered T) (F_Sliding_slide T) cdv A outer s H E hr
theorem F_Sliding_run (T : Facts K mg C_Sliding) : FnM P w K mg base C_Sliding 6 "run" 0 (g_Sliding_run C_Sliding) := fnm_run T.d_Sliding_run sc_Sliding_run rfl fun f cdv A outer s H E hr => den_Sliding_run T.m_len T.cl_Sliding T.na_Sliding_plate (F_Sliding_handle T) (F_Sliding_linked T) (F_Sliding_slide T) cdv A outer s H E hr
theorem F_told_plate (T : Facts K mg C_Sliding) : FnD P w K mg base 7 "told_plate" 1 (g_told_plate C_Sliding) := fnd_run T.d_told_plate sc_told_plate rfl fun f cdv A outer s H E hr => den_told_plate T.cl_Sliding (F_Sliding___init__ T) (F_Sliding_renamed T) (F_Sliding_run T) cdv A outer s H E hr
theorem law_all (T : Facts K mg C_Sliding) {f : Addr} {fd : FuncData} (F : Fun K "law" "law" s_law f fd) (room : Room 8 callerA) (bnd : ∀ (s : Shared) (u : Value), BindsTo s fd ⟨[u], []⟩ [("script", u)]) (sem : ∀ ns : List Int, ns.length ≤ 63 → ∃ k S' e', bl C_Sliding (slotsL ["script", "source", "plate", "words", "here", "kept", "k", "turn", "some", "place", "is_ahead", "due", "late", "told", "rim", "word", "end", "over", "back", "again", "one", "j", "led", "there", "undone"]) (some (srcOf ns)) = some (.ret ⟨k, .bl true⟩, S', e')) : LawRuns P w K mg f 63 := by
  obtain ⟨f0, fd0, F0, m0, B0⟩ := T.d__law_source.ex
  have hnd : (["script", "source", "plate", "words", "here", "kept", "k", "turn", "some", "place", "is_ahead", "due", "late", "told", "rim", "word", "end", "over", "back", "again", "one", "j", "led", "there", "undone"] : List Str).Nodup := by decide +kernel
  refine law_runs (N := ["script", "source", "plate", "words", "here", "kept", "k", "turn", "some", "place", "is_ahead", "due", "late", "told", "rim", "word", "end", "over", "back", "again", "one", "j", "led", "there", "undone"]) (rest := (defBody s_law).drop 1) F sc_law room ⟨rfl, rfl⟩ rfl bnd (fun base kin ns cdv s H E => ?_) sem
  have hr : Room 7 (callerA.deeper (envOfC "law" (defScope s_law) s.heap.objs.size f cdv)) := room.deeper _
  obtain ⟨t, D⟩ := den_law (P := P) (w := w) (base := base) T.m_len T.m_int T.m_tuple T.m_repr T.m_sorted T.m_range (F__law_drawn_ring T) (F__law_led T) (F__law_of T) (F__law_plate T) (F__law_rims T) (F__law_ring T) (F__law_slid T) (F__law_slides T) (F__law_type_plate T) (F_letters_put T) (F_slid T) (F_told_plate T) cdv callerA [] s H E hr rfl
  exact ⟨t, ps_set (i := 1) hnd rfl (.inl rfl) (pe_call (ok__law_source T.m_abs T.m_int F0) (hr.mono (by decide)) (by rfl) m0 F0.kp B0 .nil pass0 (pa_cons (pv 0) pa_nil)), D⟩
theorem head_mk {h : Heap} {fa f : Addr} {oc kV doc pm cdv ct : Value} {od an : Option Addr} {osl : Array (Option Value)} (X : K.In h) (G : h.Ns mainGlobals mg) (hfa : mg "law" = some (.ref fa)) (a : PySem.W.nsIn K mainGlobals "law" = some (some (.ref f))) (l : K.lookup f = some ⟨oc, od, .func (PySem.W.fnOf "law" "law" (defArgs s_law) (defBody s_law) (defScope s_law) .none kV doc pm an cdv ct), osl⟩) (c : PySem.W.codeIn K cdv "law" = true) (k : PySem.W.keepIn K (.ref f) = true) (T : Facts K mg C_Sliding) (sem : ∀ (C_Sliding : Addr) (ns : List Int), ns.length ≤ 63 → ∃ k S' e', bl C_Sliding (slotsL ["script", "source", "plate", "words", "here", "kept", "k", "turn", "some", "place", "is_ahead", "due", "late", "told", "rim", "word", "end", "over", "back", "again", "one", "j", "led", "there", "undone"]) (some (srcOf ns)) = some (.ret ⟨k, .bl true⟩, S', e')) : LawRuns P w K mg fa 63 := by
  have e := hfa.symm.trans (PySem.W.mg_of X G a)
  cases e
  exact law_all T (fun_mk l c k) ⟨rfl, by decide, by decide⟩ (fun s u => .of_eq rfl) (sem C_Sliding)
end
end DL

set_option Elab.async false
set_option linter.all false
namespace FG

/-! ### letters put one behind another, a letter and its undone one taken away -/
def st (s : List Int) (x : Int) : List Int := match s with
  | [] => [x]
  | y :: r => if y = -x then r else x :: y :: r
def act (s w : List Int) : List Int := w.foldl st s
def low (w : List Int) : List Int := (act [] w).reverse
def Red : List Int → Prop
  | [] => True
  | [_] => True
  | x :: y :: r => y ≠ -x ∧ Red (y :: r)
theorem Red.tail {x : Int} {s : List Int} (h : Red (x :: s)) : Red s := by
  cases s with
  | nil => trivial
  | cons y r => exact h.2
theorem Red.st {s : List Int} (h : Red s) (x : Int) : Red (st s x) := by
  cases s with
  | nil => trivial
  | cons y r =>
    unfold FG.st
    dsimp only
    split
    · exact h.tail
    · rename_i n
      exact ⟨n, h⟩
theorem st_st {s : List Int} (h : Red s) (x : Int) : st (st s x) (-x) = s := by
  cases s with
  | nil => simp [st]
  | cons y r =>
    by_cases e : y = -x
    · have e1 : st (y :: r) x = r := by simp [st, e]
      rw [e1]
      cases r with
      | nil => simp [st, e]
      | cons z q =>
        have n : z ≠ -y := h.1
        have n2 : ¬ z = - -x := by rw [← e]; exact n
        simp only [st, if_neg n2, e]
    · have e1 : st (y :: r) x = x :: y :: r := by simp [st, e]
      rw [e1]
      simp [st]
theorem act_nil (s : List Int) : act s [] = s := rfl
theorem act_cons (s : List Int) (x : Int) (w : List Int) : act s (x :: w) = act (st s x) w := rfl
theorem act_app (s a b : List Int) : act s (a ++ b) = act (act s a) b := List.foldl_append
theorem Red.act {s : List Int} (h : Red s) : ∀ w : List Int, Red (act s w) := fun w => by
  induction w generalizing s with
  | nil => exact h
  | cons x w ih => exact ih (h.st x)
theorem red_nil : Red [] := trivial
/-- a reduced stack, told as a word, put on another one -/
theorem act_st {s : List Int} (hs : Red s) {t : List Int} (ht : Red t) (x : Int) : act s (st t x).reverse = st (act s t.reverse) x := by
  have top : act s (x :: t).reverse = st (act s t.reverse) x := by
    rw [List.reverse_cons, act_app]
    rfl
  cases t with
  | nil => rfl
  | cons y r =>
    by_cases e : y = -x
    · have e1 : st (y :: r) x = r := by simp [st, e]
      rw [e1, List.reverse_cons, act_app]
      show act s r.reverse = st (st (act s r.reverse) y) x
      have := st_st (hs.act r.reverse) y
      rw [show -y = x by omega] at this
      exact this.symm
    · have e1 : st (y :: r) x = x :: y :: r := by simp [st, e]
      rw [e1]
      exact top
theorem act_low {s : List Int} (hs : Red s) (w : List Int) : act s (low w) = act s w := by
  unfold low
  suffices h : ∀ (w t : List Int), Red t → act s (act t w).reverse = act (act s t.reverse) w from h w [] red_nil
  intro w
  induction w with
  | nil => intro t _; rfl
  | cons x w ih =>
    intro t ht
    rw [act_cons, ih _ (ht.st x), act_st hs ht, act_cons]
theorem low_low_app (a b : List Int) : low (low a ++ b) = low (a ++ b) := by
  unfold low
  rw [act_app, act_app]
  have := act_low red_nil a
  unfold low at this
  rw [this]
theorem low_app_low (a b : List Int) : low (a ++ low b) = low (a ++ b) := by
  show (act [] (a ++ low b)).reverse = (act [] (a ++ b)).reverse
  rw [act_app, act_app, act_low (red_nil.act a)]
theorem low_low (a : List Int) : low (low a) = low a := by
  have := low_low_app a []
  simpa using this
theorem low_congr {a b c d : List Int} (h1 : low a = low c) (h2 : low b = low d) : low (a ++ b) = low (c ++ d) := by
  rw [← low_low_app, h1, low_low_app, ← low_app_low, h2, low_app_low]
def und (w : List Int) : List Int := (w.map fun x => -x).reverse
theorem und_und (w : List Int) : und (und w) = w := by
  unfold und
  rw [List.map_reverse, List.reverse_reverse, List.map_map]
  have : (fun x : Int => -x) ∘ (fun x => -x) = id := by funext x; simp
  rw [this, List.map_id]
theorem und_app (a b : List Int) : und (a ++ b) = und b ++ und a := by simp [und]
theorem und_cons (x : Int) (w : List Int) : und (x :: w) = und w ++ [-x] := by simp [und]
theorem und_nil : und [] = [] := rfl
theorem und_length (w : List Int) : (und w).length = w.length := by simp [und]
theorem act_und {s : List Int} (hs : Red s) (w : List Int) : act (act s w) (und w) = s := by
  induction w generalizing s with
  | nil => rfl
  | cons x w ih =>
    rw [und_cons, act_app]
    show st (act (act (st s x) w) (und w)) (-x) = s
    rw [ih (hs.st x)]
    exact st_st hs x
theorem low_und_r (w : List Int) : low (w ++ und w) = [] := by
  unfold low
  rw [act_app, act_und red_nil]
  rfl
theorem low_und_l (w : List Int) : low (und w ++ w) = [] := by
  have := low_und_r (und w)
  rwa [und_und] at this
/-- a word that is reduced stays as it is -/
theorem act_red : ∀ (w s : List Int), Red (w.reverse ++ s) → act s w = w.reverse ++ s
  | [], s, _ => rfl
  | x :: w, s, h => by
    have h' : Red (w.reverse ++ (x :: s)) := by simpa using h
    have e : st s x = x :: s := by
      have hx : Red (x :: s) := by
        clear h
        generalize w.reverse = v at h'
        induction v with
        | nil => exact h'
        | cons y v ih => exact ih h'.tail
      cases s with
      | nil => rfl
      | cons y r => simp [st, hx.1]
    rw [act_cons, e, act_red w _ h']
    simp
theorem low_stack {t : List Int} (h : Red t) : low t.reverse = t.reverse := by
  unfold low
  rw [act_red t.reverse [] (by simpa using h)]
  simp
theorem red_low (w : List Int) : Red (low w).reverse := by
  unfold low
  rw [List.reverse_reverse]
  exact red_nil.act w
/-- words with the same low one -/
theorem low_und (w : List Int) : low (und w) = und (low w) := by
  have h1 : low (und (low w) ++ w) = [] := by
    rw [← low_app_low, low_und_l]
  have h2 : Red (und (low w)).reverse := by
    have := red_low w
    generalize low w = v at this
    unfold und
    rw [List.reverse_reverse]
    have key : ∀ u : List Int, Red u → Red (u.map fun x => -x) := by
      intro u
      induction u with
      | nil => intro h; exact h
      | cons x u ih =>
        intro h
        cases u with
        | nil => trivial
        | cons y r => exact ⟨fun z => h.1 (by have z : -y = - -x := z; omega), ih h.2⟩
    have rev : ∀ u : List Int, Red u → Red u.reverse := by
      intro u
      have snoc : ∀ (v : List Int) (x : Int), Red v → (∀ y, v.getLast? = some y → x ≠ -y) → Red (v ++ [x]) := by
        intro v
        induction v with
        | nil => intro x _ _; trivial
        | cons a v ih =>
          intro x h1 h2
          cases v with
          | nil => exact ⟨by have := h2 a rfl; omega, trivial⟩
          | cons b r => exact ⟨h1.1, ih x h1.2 fun y e => h2 y (by simpa using e)⟩
      induction u with
      | nil => intro h; exact h
      | cons x u ih =>
        intro h
        rw [List.reverse_cons]
        refine snoc _ _ (ih h.tail) fun y e => ?_
        cases u with
        | nil => simp at e
        | cons z r =>
          have : z = y := by simpa using e
          subst this
          have := h.1
          omega
    have := rev _ this
    rw [List.reverse_reverse] at this
    exact key _ this
  have h3 : low (und (low w)) = und (low w) := by
    have := low_stack h2
    rwa [List.reverse_reverse] at this
  calc low (und w) = low ([] ++ und w) := rfl
    _ = low (low (und (low w) ++ w) ++ und w) := by rw [h1]
    _ = low ((und (low w) ++ w) ++ und w) := by rw [low_low_app]
    _ = low (und (low w) ++ (w ++ und w)) := by rw [List.append_assoc]
    _ = low (und (low w) ++ low (w ++ und w)) := by rw [low_app_low]
    _ = low (und (low w)) := by rw [low_und_r, List.append_nil]
    _ = und (low w) := h3
/-- equal up to what is taken away -/
theorem low_mid {a b u v : List Int} (h : low u = low v) : low (a ++ u ++ b) = low (a ++ v ++ b) := low_congr (low_congr rfl h) rfl
theorem low_cancel (a b : List Int) (x : Int) : low (a ++ x :: -x :: b) = low (a ++ b) := by
  have h : low [x, -x] = low [] := low_und_r [x]
  have := low_mid (a := a) (b := b) h
  simpa using this
/-! ### letters led to words -/
def flat (f : Int → List Int) (w : List Int) : List Int := w.flatMap f
theorem flat_nil (f : Int → List Int) : flat f [] = [] := rfl
theorem flat_cons (f : Int → List Int) (x : Int) (w : List Int) : flat f (x :: w) = f x ++ flat f w := List.flatMap_cons
theorem flat_app (f : Int → List Int) (a b : List Int) : flat f (a ++ b) = flat f a ++ flat f b := List.flatMap_append
/-- a letter's undone one is led to what its word undoes -/
def Odd (f : Int → List Int) (S : Int → Prop) : Prop := ∀ x, S x → f (-x) = und (f x)
theorem flat_und {f : Int → List Int} {S : Int → Prop} (h : Odd f S) {w : List Int} (hw : ∀ x ∈ w, S x) : flat f (und w) = und (flat f w) := by
  induction w with
  | nil => rfl
  | cons x w ih =>
    rw [und_cons, flat_app, ih fun y m => hw y (List.mem_cons_of_mem _ m), flat_cons f x w, und_app, flat_cons, flat_nil, List.append_nil, h x (hw x List.mem_cons_self)]
theorem low_flat_low {f : Int → List Int} {S : Int → Prop} (h : Odd f S) {w : List Int} (hw : ∀ x ∈ w, S x) : low (flat f (low w)) = low (flat f w) := by
  suffices k : ∀ (w t : List Int), (∀ x ∈ w, S x) → (∀ x ∈ t, S x) → low (flat f (act t w).reverse) = low (flat f (t.reverse ++ w)) by
    exact k w [] hw (by simp)
  intro w
  induction w with
  | nil => intro t _ _; simp [act_nil]
  | cons x w ih =>
    intro t hw ht
    have hx := hw x List.mem_cons_self
    have hw' : ∀ y ∈ w, S y := fun y m => hw y (List.mem_cons_of_mem _ m)
    rw [act_cons]
    cases t with
    | nil => exact ih [x] hw' (by simpa using hx)
    | cons y r =>
      have hr : ∀ z ∈ r, S z := fun z m => ht z (List.mem_cons_of_mem _ m)
      by_cases e : y = -x
      · have e1 : st (y :: r) x = r := by simp [st, e]
        rw [e1, ih r hw' hr]
        have ey := h y (ht y List.mem_cons_self)
        have ex : -y = x := by omega
        rw [ex] at ey
        rw [List.reverse_cons, List.append_assoc, List.singleton_append, flat_app, flat_app, flat_cons, flat_cons, ey]
        have := low_mid (a := flat f r.reverse) (b := flat f w) (u := []) (v := f y ++ und (f y)) (low_und_r (f y)).symm
        simpa [List.append_assoc] using this
      · have e1 : st (y :: r) x = x :: y :: r := by simp [st, e]
        rw [e1, ih (x :: y :: r) hw' (by
          intro z m
          rcases List.mem_cons.mp m with rfl | m
          · exact hx
          · exact ht z m)]
        simp
theorem mem_st {s : List Int} {x y : Int} (h : y ∈ st s x) : y ∈ s ∨ y = x := by
  cases s with
  | nil => exact .inr (by simpa [st] using h)
  | cons z r =>
    unfold st at h
    dsimp only at h
    split at h
    · exact .inl (List.mem_cons_of_mem _ h)
    · rcases List.mem_cons.mp h with rfl | h
      · exact .inr rfl
      · exact .inl h
theorem mem_act {w : List Int} : ∀ {s : List Int} {y : Int}, y ∈ act s w → y ∈ s ∨ y ∈ w := by
  induction w with
  | nil => intro s y h; exact .inl h
  | cons x w ih =>
    intro s y h
    rcases ih h with h | h
    · rcases mem_st h with h | rfl
      · exact .inl h
      · exact .inr List.mem_cons_self
    · exact .inr (List.mem_cons_of_mem _ h)
theorem mem_low {w : List Int} {y : Int} (h : y ∈ low w) : y ∈ w := by
  unfold low at h
  rcases mem_act (List.mem_reverse.mp h) with h | h
  · simp at h
  · exact h
theorem st_length (s : List Int) (x : Int) : (st s x).length ≤ s.length + 1 := by
  cases s with
  | nil => simp [st]
  | cons y r =>
    unfold st
    dsimp only
    split <;> simp <;> omega
theorem act_length (w : List Int) : ∀ s : List Int, (act s w).length ≤ s.length + w.length := by
  induction w with
  | nil => intro s; simp [act_nil]
  | cons x w ih =>
    intro s
    have h1 := ih (st s x)
    have h2 := st_length s x
    rw [act_cons, List.length_cons]
    omega
theorem low_length (w : List Int) : (low w).length ≤ w.length := by
  unfold low
  rw [List.length_reverse]
  have := act_length w []
  simpa using this
end FG

set_option Elab.async false
set_option linter.all false
namespace FG

/-! ### the order of rows of whole numbers -/
def ltL : List Int → List Int → Bool
  | [], [] => false
  | [], _ :: _ => true
  | _ :: _, [] => false
  | x :: xs, y :: ys => if x = y then ltL xs ys else decide (x < y)
theorem ltL_irrefl : ∀ a : List Int, ltL a a = false
  | [] => rfl
  | x :: xs => by simp [ltL, ltL_irrefl xs]
theorem ltL_trans : ∀ {a b c : List Int}, ltL a b = true → ltL b c = true → ltL a c = true
  | [], [], _, h, _ => by simp [ltL] at h
  | [], _ :: _, [], _, h => by simp [ltL] at h
  | [], _ :: _, _ :: _, _, _ => rfl
  | _ :: _, [], _, h, _ => by simp [ltL] at h
  | _ :: _, _ :: _, [], _, h => by simp [ltL] at h
  | x :: xs, y :: ys, z :: zs, h1, h2 => by
    simp only [ltL] at h1 h2 ⊢
    by_cases e1 : x = y
    · subst e1
      rw [if_pos rfl] at h1
      by_cases e2 : x = z
      · subst e2
        rw [if_pos rfl] at h2 ⊢
        exact ltL_trans h1 h2
      · rw [if_neg e2] at h2 ⊢
        exact h2
    · rw [if_neg e1] at h1
      by_cases e2 : y = z
      · subst e2
        rw [if_neg e1]
        exact h1
      · rw [if_neg e2] at h2
        have h1 := of_decide_eq_true h1
        have h2 := of_decide_eq_true h2
        rw [if_neg (by omega)]
        exact decide_eq_true (by omega)
theorem ltL_total : ∀ a b : List Int, ltL a b = false → ltL b a = false → a = b
  | [], [], _, _ => rfl
  | [], _ :: _, h, _ => by simp [ltL] at h
  | _ :: _, [], _, h => by simp [ltL] at h
  | x :: xs, y :: ys, h1, h2 => by
    simp only [ltL] at h1 h2
    by_cases e : x = y
    · subst e
      rw [if_pos rfl] at h1 h2
      rw [ltL_total xs ys h1 h2]
    · rw [if_neg e] at h1
      rw [if_neg (fun z => e z.symm)] at h2
      have h1 := of_decide_eq_false h1
      have h2 := of_decide_eq_false h2
      omega
def leL (a b : List Int) : Bool := !ltL b a
theorem leL_trans (a b c : List Int) (h1 : leL a b = true) (h2 : leL b c = true) : leL a c = true := by
  unfold leL at *
  rw [Bool.not_eq_true'] at *
  by_cases h : ltL c a = true
  · by_cases q : ltL b a = true
    · rw [q] at h1; cases h1
    · have q : ltL b a = false := by simpa using q
      by_cases r : ltL a b = true
      · have := ltL_trans h r
        rw [this] at h2; cases h2
      · have r : ltL a b = false := by simpa using r
        have := ltL_total _ _ r q
        subst this
        rw [h] at h2; cases h2
  · simpa using h
theorem leL_total (a b : List Int) : (leL a b || leL b a) = true := by
  unfold leL
  by_cases h : ltL b a = true
  · have : ltL a b = false := by
      by_cases q : ltL a b = true
      · have := ltL_trans h q
        rw [ltL_irrefl] at this; cases this
      · simpa using q
    simp [this]
  · have : ltL b a = false := by simpa using h
    simp [this]
theorem leL_antisymm {a b : List Int} (h1 : leL a b = true) (h2 : leL b a = true) : a = b := by
  unfold leL at *
  exact ltL_total a b (by simpa using h2) (by simpa using h1)
def srt (xs : List (List Int)) : List (List Int) := xs.mergeSort leL
theorem srt_perm {xs ys : List (List Int)} (h : xs.Perm ys) : srt xs = srt ys := by
  unfold srt
  refine List.Perm.eq_of_pairwise (le := fun a b => leL a b = true) (fun a b _ _ h1 h2 => leL_antisymm h1 h2) (List.pairwise_mergeSort leL_trans leL_total xs) (List.pairwise_mergeSort leL_trans leL_total ys) ?_
  exact ((List.mergeSort_perm xs leL).trans h).trans (List.mergeSort_perm ys leL).symm
theorem perm_srt (xs : List (List Int)) : (srt xs).Perm xs := List.mergeSort_perm xs leL
theorem srt_srt (xs : List (List Int)) : srt (srt xs) = srt xs := srt_perm (perm_srt xs)
/-! ### the least -/
def least (x : List Int) (xs : List (List Int)) : List Int := xs.foldl (fun a y => if ltL y a = true then y else a) x
theorem least_spec : ∀ (xs : List (List Int)) (x : List Int), (least x xs ∈ x :: xs) ∧ ∀ y ∈ x :: xs, leL (least x xs) y = true
  | [], x => ⟨by simp [least], fun y m => by
    have : y = x := by simpa using m
    subst this
    simp [least, leL, ltL_irrefl]⟩
  | z :: xs, x => by
    have e : least x (z :: xs) = least (if ltL z x = true then z else x) xs := rfl
    rw [e]
    obtain ⟨h1, h2⟩ := least_spec xs (if ltL z x = true then z else x)
    refine ⟨?_, fun y m => ?_⟩
    · rcases List.mem_cons.mp h1 with q | q
      · rw [q]
        split <;> simp
      · exact List.mem_cons_of_mem _ (List.mem_cons_of_mem _ q)
    · have k := h2 _ List.mem_cons_self
      rcases List.mem_cons.mp m with rfl | m
      · by_cases q : ltL z y = true
        · rw [if_pos q] at k ⊢
          have : leL z y = true := by
            unfold leL
            rw [Bool.not_eq_true']
            by_cases r : ltL y z = true
            · have := ltL_trans q r
              rw [ltL_irrefl] at this; cases this
            · simpa using r
          exact leL_trans _ _ _ k this
        · rw [if_neg q] at k ⊢
          exact k
      · rcases List.mem_cons.mp m with rfl | m
        · by_cases q : ltL y x = true
          · rw [if_pos q] at k ⊢
            exact k
          · rw [if_neg q] at k ⊢
            have : leL x y = true := by
              unfold leL
              simpa using q
            exact leL_trans _ _ _ k this
        · exact h2 y (List.mem_cons_of_mem _ m)
theorem least_eq {x y : List Int} {xs ys : List (List Int)} (h : ∀ z, z ∈ x :: xs ↔ z ∈ y :: ys) : least x xs = least y ys := by
  obtain ⟨a1, a2⟩ := least_spec xs x
  obtain ⟨b1, b2⟩ := least_spec ys y
  exact leL_antisymm (a2 _ ((h _).mpr b1)) (b2 _ ((h _).mp a1))
/-! ### round words -/
def rots (c : List Int) : List (List Int) := (List.range c.length).map fun k => c.drop k ++ c.take k
def rmin (c : List Int) : List Int := match rots c with
  | [] => []
  | x :: xs => least x xs
theorem mem_rots {c z : List Int} : z ∈ rots c ↔ ∃ a b, c = a ++ b ∧ b ≠ [] ∧ z = b ++ a := by
  unfold rots
  rw [List.mem_map]
  constructor
  · rintro ⟨k, hk, rfl⟩
    have hk := List.mem_range.mp hk
    exact ⟨c.take k, c.drop k, (List.take_append_drop k c).symm, fun z => by
      have := congrArg List.length z
      rw [List.length_drop, List.length_nil] at this
      omega, rfl⟩
  · rintro ⟨a, b, rfl, hb, rfl⟩
    refine ⟨a.length, List.mem_range.mpr ?_, by simp⟩
    have : b.length ≠ 0 := fun z => hb (List.eq_nil_of_length_eq_zero z)
    rw [List.length_append]
    omega
theorem rmin_spec {c : List Int} (h : c ≠ []) : ∃ a b, c = a ++ b ∧ rmin c = b ++ a := by
  have : rmin c ∈ rots c := by
    unfold rmin
    cases e : rots c with
    | nil =>
      exfalso
      apply h
      have := congrArg List.length e
      unfold rots at this
      rw [List.length_map, List.length_range] at this
      exact List.eq_nil_of_length_eq_zero this
    | cons x xs => exact (least_spec xs x).1
  obtain ⟨a, b, h1, _, h2⟩ := mem_rots.mp this
  exact ⟨a, b, h1, h2⟩
theorem rmin_nil : rmin [] = [] := rfl
theorem rot_sub {a b z : List Int} (h : z ∈ rots (a ++ b)) : z ∈ rots (b ++ a) := by
  obtain ⟨c, d, h1, h2, rfl⟩ := mem_rots.mp h
  rw [mem_rots]
  rcases List.append_eq_append_iff.mp h1 with ⟨e, rfl, rfl⟩ | ⟨e, rfl, rfl⟩
  · -- c = a ++ e, b = e ++ d
    refine ⟨e, d ++ a, by simp, fun z => ?_, by simp⟩
    exact h2 (List.append_eq_nil_iff.mp z).1
  · -- a = c ++ e, d = e ++ b
    by_cases he : e = []
    · subst he
      by_cases hc : c = []
      · subst hc
        exact ⟨[], b, by simp, by simpa using h2, by simp⟩
      · exact ⟨[], b ++ c, by simp, fun z => hc (List.append_eq_nil_iff.mp z).2, by simp⟩
    · exact ⟨b ++ c, e, by simp, he, by simp⟩
theorem rmin_rot (a b : List Int) : rmin (a ++ b) = rmin (b ++ a) := by
  unfold rmin
  cases e1 : rots (a ++ b) with
  | nil =>
    cases e2 : rots (b ++ a) with
    | nil => rfl
    | cons y ys =>
      have := rot_sub (a := b) (b := a) (z := y) (by rw [e2]; exact List.mem_cons_self)
      rw [e1] at this
      cases this
  | cons x xs =>
    cases e2 : rots (b ++ a) with
    | nil =>
      have := rot_sub (a := a) (b := b) (z := x) (by rw [e1]; exact List.mem_cons_self)
      rw [e2] at this
      cases this
    | cons y ys =>
      refine least_eq fun z => ?_
      rw [← e1, ← e2]
      exact ⟨rot_sub, rot_sub⟩
def core (w : List Int) : List Int := match w with
  | [] => []
  | [x] => [x]
  | x :: y :: r => if x = -((y :: r).getLast (by simp)) then core ((y :: r).dropLast) else x :: y :: r
termination_by w.length
decreasing_by simp; omega
def ring (w : List Int) : List Int := rmin (core (low w))
theorem core_nil : core [] = [] := by unfold core; rfl
theorem core_one (x : Int) : core [x] = [x] := by unfold core; rfl
theorem core_in (x : Int) (v : List Int) : core (x :: v ++ [-x]) = core v := by
  cases v with
  | nil =>
    rw [show ([x] ++ [-x] : List Int) = x :: -x :: [] from rfl, core_nil, core, if_pos (by show x = - -x; omega)]
    exact core_nil
  | cons y r =>
    rw [show (x :: y :: r ++ [-x]) = x :: y :: (r ++ [-x]) from rfl, core]
    have e : (y :: (r ++ [-x])).getLast (by simp) = -x := by
      rw [List.getLast_cons (by simp)]
      simp
    rw [if_pos (by rw [e]; omega)]
    have : (y :: (r ++ [-x])).dropLast = y :: r := by
      rw [show y :: (r ++ [-x]) = (y :: r) ++ [-x] from rfl, List.dropLast_concat]
    rw [this]
theorem core_out {x : Int} {v : List Int} (h : ∀ z, (x :: v).getLast? = some z → x ≠ -z) : core (x :: v) = x :: v := by
  cases v with
  | nil => exact core_one x
  | cons y r =>
    rw [core, if_neg]
    refine h _ ?_
    rw [List.getLast?_cons_cons, List.getLast?_eq_some_getLast (by simp)]
theorem core_spec : ∀ (n : Nat) (w : List Int), w.length ≤ n → ∃ u, w = u ++ core w ++ und u := by
  intro n
  induction n with
  | zero =>
    intro w h
    have : w = [] := List.eq_nil_of_length_eq_zero (by omega)
    subst this
    exact ⟨[], by simp [core_nil, und_nil]⟩
  | succ n ih =>
    intro w h
    match w with
    | [] => exact ⟨[], by simp [core_nil, und_nil]⟩
    | [x] => exact ⟨[], by simp [core_one, und_nil]⟩
    | x :: y :: r =>
      by_cases e : x = -((y :: r).getLast (by simp))
      · have h1 : core (x :: y :: r) = core ((y :: r).dropLast) := by rw [core, if_pos e]
        obtain ⟨u, hu⟩ := ih ((y :: r).dropLast) (by rw [List.length_dropLast]; simp at h ⊢; omega)
        refine ⟨x :: u, ?_⟩
        rw [h1, und_cons]
        have h2 : y :: r = (y :: r).dropLast ++ [-x] := by
          have := List.dropLast_concat_getLast (l := y :: r) (by simp)
          rw [show (y :: r).getLast (by simp) = -x by omega] at this
          exact this.symm
        have h3 : x :: y :: r = x :: (u ++ core ((y :: r).dropLast) ++ und u) ++ [-x] := by
          rw [← hu, List.cons_append, ← h2]
        rw [h3]
        simp
      · exact ⟨[], by rw [core, if_neg e]; simp [und_nil]⟩
theorem ring_low (w : List Int) : ring (low w) = ring w := by
  unfold ring
  rw [low_low]
theorem ring_congr {a b : List Int} (h : low a = low b) : ring a = ring b := by
  unfold ring
  rw [h]
theorem low_red {v : List Int} (h : Red v.reverse) : low v = v := by
  have := low_stack h
  rwa [List.reverse_reverse] at this
end FG

set_option Elab.async false
set_option linter.all false
namespace FG

theorem red_snoc : ∀ (v : List Int) (x : Int), Red v → (∀ y, v.getLast? = some y → x ≠ -y) → Red (v ++ [x])
  | [], _, _, _ => trivial
  | [a], x, _, h => ⟨h a rfl, trivial⟩
  | a :: b :: r, x, h1, h2 => ⟨h1.1, red_snoc (b :: r) x h1.2 fun y e => h2 y (by rw [List.getLast?_cons_cons]; exact e)⟩
theorem red_rev : ∀ u : List Int, Red u → Red u.reverse
  | [], h => h
  | x :: u, h => by
    rw [List.reverse_cons]
    refine red_snoc _ _ (red_rev u h.tail) fun y e => ?_
    cases u with
    | nil => simp at e
    | cons z r =>
      have : z = y := by simpa using e
      subst this
      have := h.1
      omega
theorem red_low' (w : List Int) : Red (low w) := by
  have := red_rev _ (red_low w)
  rwa [List.reverse_reverse] at this
theorem low_of_red {v : List Int} (h : Red v) : low v = v := low_red (red_rev v h)
theorem red_left : ∀ {a b : List Int}, Red (a ++ b) → Red a
  | [], _, _ => trivial
  | [_], _, _ => trivial
  | x :: y :: r, b, h => ⟨h.1, red_left (a := y :: r) (b := b) h.2⟩
theorem red_right : ∀ {a b : List Int}, Red (a ++ b) → Red b
  | [], _, h => h
  | x :: a, b, h => red_right (a := a) (Red.tail (x := x) h)
theorem red_last : ∀ {a : List Int} {x z : Int}, Red (a ++ [x]) → a.getLast? = some z → x ≠ -z
  | [], _, _, _, e => by simp at e
  | [a], x, z, h, e => by
    have : a = z := by simpa using e
    subst this
    exact h.1
  | a :: b :: r, x, z, h, e => red_last (a := b :: r) h.2 (by rw [List.getLast?_cons_cons] at e; exact e)
theorem low_cancel0 (b : List Int) (x : Int) : low (x :: -x :: b) = low b := low_cancel [] b x
theorem low_cancelr (a : List Int) (x : Int) : low (a ++ [x, -x]) = low a := by
  have := low_cancel a [] x
  simpa using this
theorem ring_conj1 {x : Int} (hx : x ≠ 0) (w : List Int) : ring (x :: w ++ [-x]) = ring w := by
  have e0 : low (x :: w ++ [-x]) = low (x :: low w ++ [-x]) := by
    have := low_mid (a := [x]) (b := [-x]) (u := w) (v := low w) (low_low w).symm
    simpa using this
  unfold ring
  rw [e0]
  have hr := red_low' w
  generalize low w = v at hr
  clear e0
  cases v with
  | nil =>
    have : low (x :: ([] : List Int) ++ [-x]) = [] := low_cancel0 [] x
    rw [this]
  | cons a t =>
    have hlast : ∃ b, (a :: t).getLast? = some b := ⟨_, List.getLast?_eq_some_getLast (by simp)⟩
    obtain ⟨b, hb⟩ := hlast
    obtain ⟨i, hi⟩ : ∃ i, a :: t = i ++ [b] := List.getLast?_eq_some_iff.mp hb
    by_cases ha : a = -x
    · by_cases hbx : b = x
      · -- both ends
        subst hbx
        cases t with
        | nil =>
          have : a = b := by simpa using hb
          omega
        | cons c t' =>
          obtain ⟨m, hm⟩ : ∃ m, c :: t' = m ++ [b] := List.getLast?_eq_some_iff.mp (by rw [List.getLast?_cons_cons] at hb; exact hb)
          have e1 : low (b :: (a :: c :: t') ++ [-b]) = m := by
            have q1 : b :: (a :: c :: t') ++ [-b] = b :: -b :: (m ++ [b, -b]) := by rw [ha, hm]; simp
            rw [q1, low_cancel0, low_cancelr]
            exact low_of_red (red_left (b := [b]) (by rw [← hm]; exact hr.tail))
          have e2 : core (a :: c :: t') = core m := by
            have q1 : a :: c :: t' = -b :: m ++ [- -b] := by rw [ha, hm]; simp
            rw [q1]
            exact core_in (-b) m
          rw [e1, e2]
      · -- first alone
        subst ha
        have r1 : Red (t ++ [-x]) := red_snoc t (-x) hr.tail fun y e => by
          cases t with
          | nil => simp at e
          | cons c t' =>
            rw [List.getLast?_cons_cons] at hb
            rw [hb] at e
            have := Option.some.inj e
            omega
        have e1 : low (x :: (-x :: t) ++ [-x]) = t ++ [-x] := by
          have : x :: (-x :: t) ++ [-x] = x :: -x :: (t ++ [-x]) := by simp
          rw [this, low_cancel0, low_of_red r1]
        have e2 : core (-x :: t) = -x :: t := core_out fun z e => by
          rw [hb] at e
          have := Option.some.inj e
          omega
        have e3 : core (t ++ [-x]) = t ++ [-x] := by
          cases t with
          | nil => exact core_one _
          | cons c t' =>
            have hc : c ≠ - -x := hr.1
            refine core_out (x := c) (v := t' ++ [-x]) fun z e => ?_
            have : z = -x := by
              have e : (c :: t' ++ [-x]).getLast? = some z := e
              rw [List.getLast?_append] at e
              simpa using e.symm
            rw [this]
            exact hc
        rw [e1, e2, e3]
        have := rmin_rot t [-x]
        simpa using this
    · by_cases hbx : b = x
      · subst hbx
        have r1 : Red (b :: i) := by
          cases i with
          | nil => trivial
          | cons c i' =>
            have : a = c := by
              have := congrArg List.head? hi
              simpa using this
            subst this
            refine ⟨fun z => ha z, red_left (b := [b]) (by rw [← hi]; exact hr)⟩
        have e1 : low (b :: (a :: t) ++ [-b]) = b :: i := by
          have : b :: (a :: t) ++ [-b] = (b :: i) ++ [b, -b] := by rw [hi]; simp
          rw [this, low_cancelr, low_of_red r1]
        have e2 : core (b :: i) = b :: i := core_out fun z e => by
          cases i with
          | nil =>
            have : b = z := by simpa using e
            omega
          | cons c i' =>
            rw [List.getLast?_cons_cons] at e
            exact red_last (a := c :: i') (x := b) (by rw [← hi]; exact hr) e
        have e3 : core (a :: t) = a :: t := core_out fun z e => by
          rw [hb] at e
          have := Option.some.inj e
          omega
        rw [e1, e2, e3, hi]
        have := rmin_rot [b] i
        simpa using this
      · have r1 : Red (x :: (a :: t) ++ [-x]) := by
          refine red_snoc (x :: a :: t) (-x) ⟨ha, hr⟩ fun y e => ?_
          rw [List.getLast?_cons_cons, hb] at e
          have := Option.some.inj e
          omega
        rw [low_of_red r1, core_in]
theorem ring_conj : ∀ {u : List Int} (w : List Int), (∀ x ∈ u, x ≠ 0) → ring (u ++ w ++ und u) = ring w
  | [], w, _ => by simp [und_nil]
  | x :: u, w, h => by
    have e : x :: u ++ w ++ und (x :: u) = x :: (u ++ w ++ und u) ++ [-x] := by rw [und_cons]; simp
    rw [e, ring_conj1 (h x List.mem_cons_self)]
    exact ring_conj w fun y m => h y (List.mem_cons_of_mem _ m)
theorem ring_rot {a : List Int} (b : List Int) (h : ∀ x ∈ a, x ≠ 0) : ring (a ++ b) = ring (b ++ a) := by
  rw [← ring_conj (u := a) (b ++ a) h]
  refine ring_congr ?_
  have := low_congr (a := a ++ b) (c := a ++ b) (b := []) (d := a ++ und a) rfl (low_und_r a).symm
  rw [List.append_nil] at this
  rw [this]
  simp
theorem mem_rmin {c : List Int} {x : Int} (h : x ∈ rmin c) : x ∈ c := by
  by_cases e : c = []
  · subst e; cases h
  · obtain ⟨a, b, h1, h2⟩ := rmin_spec e
    rw [h2] at h
    rw [h1]
    rcases List.mem_append.mp h with h | h
    · exact List.mem_append_right _ h
    · exact List.mem_append_left _ h
theorem ring_spec (w : List Int) : ∃ u, low w = low (u ++ ring w ++ und u) ∧ ∀ x ∈ u, x ∈ w := by
  obtain ⟨u, hu⟩ := core_spec _ (low w) (Nat.le_refl _)
  have hw : ∀ {x}, x ∈ low w → x ∈ w := mem_low
  by_cases e : core (low w) = []
  · refine ⟨u, ?_, fun x m => hw (by rw [hu]; exact List.mem_append_left _ (List.mem_append_left _ m))⟩
    unfold ring
    rw [e] at hu ⊢
    rw [rmin_nil, ← hu, low_low]
  · obtain ⟨a, b, h1, h2⟩ := rmin_spec e
    refine ⟨u ++ a, ?_, fun x m => ?_⟩
    · have : low (u ++ a ++ ring w ++ und (u ++ a)) = low (u ++ a ++ b ++ und u) := by
        unfold ring
        rw [h2, und_app]
        have := low_mid (a := u ++ a ++ b) (b := und u) (u := a ++ und a) (v := []) (low_und_r a)
        simpa [List.append_assoc] using this
      rw [this, ← low_low w]
      have hu' := hu
      rw [h1] at hu'
      rw [hu']
      simp
    · refine hw ?_
      rw [hu, h1]
      rcases List.mem_append.mp m with m | m
      · simp [m]
      · simp [m]
theorem mem_ring {w : List Int} {x : Int} (h : x ∈ ring w) : x ∈ w := by
  unfold ring at h
  have h := mem_rmin h
  obtain ⟨u, hu⟩ := core_spec _ (low w) (Nat.le_refl _)
  refine mem_low ?_
  rw [hu]
  simp [h]
theorem ring_ring {w : List Int} (h : ∀ x ∈ w, x ≠ 0) : ring (ring w) = ring w := by
  obtain ⟨u, h1, h2⟩ := ring_spec w
  have := ring_conj (u := u) (ring w) fun x m => h x (h2 x m)
  rw [← this]
  exact ring_congr h1.symm
theorem mem_und {w : List Int} {x : Int} : x ∈ und w ↔ -x ∈ w := by
  unfold und
  rw [List.mem_reverse, List.mem_map]
  constructor
  · rintro ⟨a, m, rfl⟩
    rwa [Int.neg_neg]
  · intro m
    exact ⟨-x, m, by omega⟩
theorem ring_und {w : List Int} (h : ∀ x ∈ w, x ≠ 0) : ring (und (ring w)) = ring (und w) := by
  obtain ⟨u, h1, h2⟩ := ring_spec w
  have e : low (und w) = low (u ++ und (ring w) ++ und u) := by
    rw [low_und, h1, ← low_und, und_app, und_app, und_und, ← List.append_assoc]
  rw [ring_congr e, ring_conj _ fun x m => h x (h2 x m)]
theorem ring_flat {f : Int → List Int} {S : Int → Prop} (hf : Odd f S) (hS : ∀ x, S x → S (-x)) (hz : ∀ x, S x → ∀ y ∈ f x, y ≠ 0) {w : List Int} (hw : ∀ x ∈ w, S x) : ring (flat f (ring w)) = ring (flat f w) := by
  obtain ⟨u, h1, h2⟩ := ring_spec w
  have hu : ∀ x ∈ u, S x := fun x m => hw x (h2 x m)
  have hr : ∀ x ∈ ring w, S x := fun x m => hw x (mem_ring m)
  have hall : ∀ x ∈ u ++ ring w ++ und u, S x := by
    intro x m
    rcases List.mem_append.mp m with m | m
    · rcases List.mem_append.mp m with m | m
      · exact hu x m
      · exact hr x m
    · have := hS _ (hu _ (mem_und.mp m))
      rwa [Int.neg_neg] at this
  have e : low (flat f w) = low (flat f u ++ flat f (ring w) ++ und (flat f u)) := by
    rw [← low_flat_low hf hw, h1, low_flat_low hf hall, flat_app, flat_app, flat_und hf hu]
  rw [ring_congr e, ring_conj]
  intro y m
  obtain ⟨x, m1, m2⟩ := List.mem_flatMap.mp m
  exact hz x (hu x m1) y m2
end FG

set_option Elab.async false
set_option linter.all false
namespace FG

/-! ### rows told by what follows -/
def Ch (R : Int → Int → Prop) : List Int → Prop
  | x :: y :: r => R x y ∧ Ch R (y :: r)
  | _ => True
theorem Ch_app {R : Int → Int → Prop} : ∀ (a : List Int) (x : Int) (b : List Int), Ch R (a ++ x :: b) ↔ Ch R (a ++ [x]) ∧ Ch R (x :: b)
  | [], x, b => by simp [Ch]
  | [y], x, b => by simp [Ch]
  | y :: z :: r, x, b => by
    have := Ch_app (R := R) (z :: r) x b
    simp only [List.cons_append, Ch] at this ⊢
    rw [this, and_assoc]
theorem Ch.imp {R S : Int → Int → Prop} : ∀ {l : List Int}, Ch R l → (∀ x y, x ∈ l.dropLast → y ∈ l.tail → R x y → S x y) → Ch S l
  | [], _, _ => trivial
  | [_], _, _ => trivial
  | x :: y :: r, h, k => ⟨k x y (by simp) (by simp) h.1, Ch.imp (l := y :: r) h.2 fun u v m1 m2 q => k u v (by
      rw [List.dropLast_cons_of_ne_nil (by simp)]
      exact List.mem_cons_of_mem _ m1) (by
      have : v ∈ r := m2
      simp [this]) q⟩
def Cyc (R : Int → Int → Prop) (r : List Int) : Prop := ∃ x t, r = x :: t ∧ Ch R (x :: t ++ [x])
theorem Cyc.rot {R : Int → Int → Prop} {a b : List Int} (h : Cyc R (a ++ b)) : Cyc R (b ++ a) := by
  cases a with
  | nil => simpa using h
  | cons x a =>
    cases b with
    | nil => simpa using h
    | cons y b =>
      obtain ⟨z, t, e, k⟩ := h
      rw [List.cons_append] at e
      cases e
      refine ⟨y, b ++ x :: a, by simp, ?_⟩
      have k : Ch R ((x :: a) ++ y :: (b ++ [x])) := by simpa using k
      obtain ⟨k1, k2⟩ := (Ch_app _ _ _).mp k
      have : Ch R ((y :: b) ++ x :: (a ++ [y])) := (Ch_app _ _ _).mpr ⟨by simpa using k2, by simpa using k1⟩
      simpa using this
structure Dec (R : Int → Int → Prop) (p : List Int) (rows : List (List Int)) : Prop where
  perm : rows.flatten.Perm p
  cyc : ∀ r ∈ rows, Cyc R r
theorem same_row {R : Int → Int → Prop} (hf : ∀ x y z, R x y → R x z → y = z) (x : Int) : ∀ (s t : List Int) (a : Int), Ch R (a :: s ++ [x]) → Ch R (a :: t ++ [x]) → x ∉ s → x ∉ t → s = t
  | [], [], _, _, _, _, _ => rfl
  | [], b :: t, a, h1, h2, _, n => by
    have := hf _ _ _ h1.1 h2.1
    subst this
    exact absurd List.mem_cons_self n
  | b :: s, [], a, h1, h2, n, _ => by
    have := hf _ _ _ h1.1 h2.1
    subst this
    exact absurd List.mem_cons_self n
  | b :: s, c :: t, a, h1, h2, n1, n2 => by
    have := hf _ _ _ h1.1 h2.1
    subst this
    rw [same_row hf x s t b h1.2 h2.2 (fun m => n1 (List.mem_cons_of_mem _ m)) fun m => n2 (List.mem_cons_of_mem _ m)]
theorem dec_unique {R : Int → Int → Prop} (hf : ∀ x y z, R x y → R x z → y = z) : ∀ (rows1 rows2 : List (List Int)) (p : List Int), p.Nodup → (∀ x ∈ p, x ≠ 0) → Dec R p rows1 → Dec R p rows2 → (rows1.map ring).Perm (rows2.map ring)
  | [], rows2, p, hn, hz, d1, d2 => by
    cases rows2 with
    | nil => exact .nil
    | cons q qs =>
      obtain ⟨x, t, e, _⟩ := d2.cyc q List.mem_cons_self
      have h1 := d1.perm.length_eq
      have h2 := d2.perm.length_eq
      simp only [List.flatten_nil, List.length_nil] at h1
      rw [← h1, e] at h2
      simp at h2
  | r :: rs, rows2, p, hn, hz, d1, d2 => by
    obtain ⟨x, s, rfl, hc⟩ := d1.cyc r List.mem_cons_self
    have hx : x ∈ p := d1.perm.mem_iff.mp (by simp)
    obtain ⟨q, mq, xq⟩ := List.mem_flatten.mp (d2.perm.mem_iff.mpr hx)
    obtain ⟨A, B, rfl⟩ := List.append_of_mem mq
    obtain ⟨c, d, rfl⟩ := List.append_of_mem xq
    have n1 : (((x :: s) :: rs).flatten).Nodup := d1.perm.symm.nodup hn
    have n2 : ((A ++ (c ++ x :: d) :: B).flatten).Nodup := d2.perm.symm.nodup hn
    have n2q : (c ++ x :: d).Nodup := by
      rw [List.flatten_append, List.flatten_cons] at n2
      exact (List.nodup_append.mp (List.nodup_append.mp n2).2.1).1
    have hcq : Cyc R ((x :: d) ++ c) := (d2.cyc _ mq).rot
    obtain ⟨x', t', e', hch⟩ := hcq
    rw [List.cons_append] at e'
    cases e'
    have nxs : x ∉ s := by
      rw [List.flatten_cons, List.cons_append, List.nodup_cons] at n1
      exact fun m => n1.1 (List.mem_append_left _ m)
    have nxd : x ∉ d ++ c := by
      have := (List.perm_append_comm.nodup n2q : ((x :: d) ++ c).Nodup)
      rw [List.cons_append, List.nodup_cons] at this
      exact this.1
    have es := same_row hf x s (d ++ c) x hc hch nxs nxd
    have er : ring (c ++ x :: d) = ring (x :: s) := by
      rw [es]
      have hzc : ∀ y ∈ c, y ≠ 0 := fun y m => hz y (d2.perm.mem_iff.mp (List.mem_flatten.mpr ⟨_, mq, List.mem_append_left _ m⟩))
      exact ring_rot (x :: d) hzc
    have pq : (c ++ x :: d).Perm (x :: s) := by
      rw [es]
      exact List.perm_append_comm
    have p1 : rs.flatten.Perm (A ++ B).flatten := by
      have h1 : ((x :: s) ++ rs.flatten).Perm (A.flatten ++ ((c ++ x :: d) ++ B.flatten)) := by
        have := d1.perm.trans d2.perm.symm
        simpa [List.flatten_append, List.flatten_cons] using this
      have h2 : (A.flatten ++ ((c ++ x :: d) ++ B.flatten)).Perm ((x :: s) ++ (A.flatten ++ B.flatten)) := by
        have h3 : (A.flatten ++ ((c ++ x :: d) ++ B.flatten)).Perm ((c ++ x :: d) ++ (A.flatten ++ B.flatten)) := by
          have := List.Perm.append_right B.flatten (List.perm_append_comm (l₁ := A.flatten) (l₂ := c ++ x :: d))
          simpa [List.append_assoc] using this
        exact h3.trans (List.Perm.append_right _ pq)
      have := (List.perm_append_left_iff _).mp (h1.trans h2)
      rw [List.flatten_append]
      exact this
    have n3 : (rs.flatten).Nodup := by
      rw [List.flatten_cons] at n1
      exact (List.nodup_append.mp n1).2.1
    have ih := dec_unique hf rs (A ++ B) rs.flatten n3 (fun y m => hz y (d1.perm.mem_iff.mp (by rw [List.flatten_cons]; exact List.mem_append_right _ m))) ⟨.refl _, fun q m => d1.cyc q (List.mem_cons_of_mem _ m)⟩ ⟨p1.symm, fun q m => d2.cyc q (by
      rcases List.mem_append.mp m with m | m
      · exact List.mem_append_left _ m
      · exact List.mem_append_right _ (List.mem_cons_of_mem _ m))⟩
    rw [List.map_cons, List.map_append, List.map_cons, er]
    rw [List.map_append] at ih
    exact (List.Perm.cons _ ih).trans List.perm_middle.symm
/-! ### what follows round a plate -/
def nxt (p : List Int) (x : Int) : Int := p.getD ((p.idxOf x + 1) % p.length) 0
theorem idx_mid {a b : List Int} {x : Int} (h : x ∉ a) : (a ++ x :: b).idxOf x = a.length := by
  rw [List.idxOf_append, if_neg h]
  simp
theorem nxt_mid {a b : List Int} {x y : Int} (h : x ∉ a) : nxt (a ++ x :: y :: b) x = y := by
  unfold nxt
  rw [idx_mid h, Nat.mod_eq_of_lt (by simp)]
  simp
theorem nxt_end {b : List Int} {x y : Int} (h : x ∉ y :: b) : nxt (y :: b ++ [x]) x = y := by
  unfold nxt
  rw [show y :: b ++ [x] = (y :: b) ++ x :: [] from rfl, idx_mid h]
  have : (y :: b ++ [x]).length = (y :: b).length + 1 := by simp
  rw [this, Nat.mod_self]
  rfl
theorem nxt_one (x : Int) : nxt [x] x = x := by simp [nxt]
theorem nxt_rot1 {a b : List Int} {x : Int} (hn : (a ++ b).Nodup) (hx : x ∈ a) : nxt (a ++ b) x = nxt (b ++ a) x := by
  obtain ⟨c, d, rfl⟩ := List.append_of_mem hx
  have hn' : (c ++ x :: (d ++ b)).Nodup := by simpa using hn
  have nc : x ∉ c := fun m => (List.nodup_append.mp hn').2.2 x m x (by simp) rfl
  have nd : x ∉ d ++ b := (List.nodup_cons.mp (List.nodup_append.mp hn').2.1).1
  have nb : x ∉ b ++ c := fun m => (List.mem_append.mp m).elim (fun m => nd (List.mem_append_right _ m)) nc
  cases d with
  | cons y d =>
    rw [show c ++ x :: y :: d ++ b = c ++ x :: y :: (d ++ b) by simp, nxt_mid nc, show b ++ (c ++ x :: y :: d) = (b ++ c) ++ x :: y :: d by simp, nxt_mid nb]
  | nil =>
    cases b with
    | nil => simp
    | cons y b =>
      rw [show c ++ [x] ++ y :: b = c ++ x :: y :: b by simp, nxt_mid nc, show y :: b ++ (c ++ [x]) = y :: (b ++ c) ++ [x] by simp, nxt_end (b := b ++ c) (by simpa using nb)]
theorem nxt_rot {a b : List Int} {x : Int} (hn : (a ++ b).Nodup) (hx : x ∈ a ++ b) : nxt (a ++ b) x = nxt (b ++ a) x := by
  rcases List.mem_append.mp hx with m | m
  · exact nxt_rot1 hn m
  · exact (nxt_rot1 (List.perm_append_comm.nodup hn) m).symm
theorem nxt_mem {p : List Int} {x : Int} (h : x ∈ p) : nxt p x ∈ p := by
  unfold nxt
  have hp : 0 < p.length := List.length_pos_of_mem h
  have hl := Nat.mod_lt (p.idxOf x + 1) hp
  rw [List.getD_eq_getElem?_getD, List.getElem?_eq_getElem hl]
  exact List.getElem_mem hl
theorem nxt_inj {p : List Int} (hn : p.Nodup) {x y : Int} (hx : x ∈ p) (hy : y ∈ p) (h : nxt p x = nxt p y) : x = y := by
  unfold nxt at h
  have hp : 0 < p.length := List.length_pos_of_mem hx
  have lx := List.idxOf_lt_length_of_mem hx
  have ly := List.idxOf_lt_length_of_mem hy
  have h1 := Nat.mod_lt (p.idxOf x + 1) hp
  have h2 := Nat.mod_lt (p.idxOf y + 1) hp
  rw [List.getD_eq_getElem?_getD, List.getD_eq_getElem?_getD, List.getElem?_eq_getElem h1, List.getElem?_eq_getElem h2] at h
  have e : (p.idxOf x + 1) % p.length = (p.idxOf y + 1) % p.length := (List.getElem_inj hn).mp h
  have e2 : p.idxOf x = p.idxOf y := by
    by_cases a : p.idxOf x + 1 = p.length
    · by_cases b : p.idxOf y + 1 = p.length
      · omega
      · rw [a, Nat.mod_self, Nat.mod_eq_of_lt (by omega)] at e
        omega
    · by_cases b : p.idxOf y + 1 = p.length
      · rw [b, Nat.mod_self, Nat.mod_eq_of_lt (by omega)] at e
        omega
      · rw [Nat.mod_eq_of_lt (by omega), Nat.mod_eq_of_lt (by omega)] at e
        omega
  have a1 := List.getElem_idxOf lx
  have a2 := List.getElem_idxOf ly
  have : p[p.idxOf x]? = p[p.idxOf y]? := by rw [e2]
  rw [List.getElem?_eq_getElem lx, List.getElem?_eq_getElem ly, a1, a2] at this
  exact Option.some.inj this
/-! ### rims -/
def step (p : List Int) (x : Int) : Int := nxt p (-x)
abbrev RR (p : List Int) : Int → Int → Prop := fun x y => step p x = y
structure Plate (n : Nat) (p : List Int) : Prop where
  nd : p.Nodup
  mem : ∀ x, x ∈ p ↔ x ≠ 0 ∧ -(n : Int) ≤ x ∧ x ≤ n
theorem Plate.neg {n : Nat} {p : List Int} (h : Plate n p) {x : Int} (m : x ∈ p) : -x ∈ p := by
  rw [h.mem] at m ⊢
  omega
theorem Plate.nz {n : Nat} {p : List Int} (h : Plate n p) : ∀ x ∈ p, x ≠ 0 := fun x m => ((h.mem x).mp m).1
theorem Plate.step {n : Nat} {p : List Int} (h : Plate n p) {x : Int} (m : x ∈ p) : step p x ∈ p := nxt_mem (h.neg m)
theorem Plate.inj {n : Nat} {p : List Int} (h : Plate n p) {x y : Int} (hx : x ∈ p) (hy : y ∈ p) (e : FG.step p x = FG.step p y) : x = y := by
  have := nxt_inj h.nd (h.neg hx) (h.neg hy) e
  omega
def walk (p met : List Int) : Nat → List Int → Int → List Int
  | 0, row, _ => row
  | k + 1, row, x => if x ∈ met ++ row then row else walk p met k (row ++ [x]) (step p x)
def rowsGo (p : List Int) : List Int → List (List Int) → List (List Int)
  | [], rows => rows
  | f :: fs, rows => rowsGo p fs (if walk p rows.flatten (p.length + 1) [] f = [] then rows else rows ++ [walk p rows.flatten (p.length + 1) [] f])
def rows (p : List Int) : List (List Int) := rowsGo p p []
def rims (p : List Int) : List (List Int) := srt ((rows p).map ring)
theorem Ch.last {R : Int → Int → Prop} : ∀ {a : List Int} {x y : Int}, Ch R (a ++ [x, y]) → R x y := fun {a x y} h => ((Ch_app a x [y]).mp h).2.1
theorem walk_ok {n : Nat} {p met : List Int} (hp : Plate n p) (back : ∀ x ∈ p, step p x ∈ met → x ∈ met) :
    ∀ (k : Nat) (row : List Int) (x : Int), (∀ y ∈ row, y ∈ p ∧ y ∉ met) → row.Nodup → x ∈ p → Ch (RR p) (row ++ [x]) → p.length < k + row.length → (row ≠ [] ∨ x ∉ met) →
      (∀ y ∈ walk p met k row x, y ∈ p ∧ y ∉ met) ∧ (walk p met k row x).Nodup ∧ Cyc (RR p) (walk p met k row x) ∧ (∀ f, (row ++ [x]).head? = some f → (walk p met k row x).head? = some f) := by
  intro k
  induction k with
  | zero =>
    intro row x h1 h2 _ _ h5
    have : row.length ≤ p.length := by
      have hs : row ⊆ p := fun y m => (h1 y m).1
      have := List.Nodup.length_le_of_subset h2 hs
      exact this
    omega
  | succ k ih =>
    intro row x h1 h2 h3 h4 h5 h6
    unfold walk
    by_cases hm : x ∈ met ++ row
    · rw [if_pos hm]
      -- x closes the row
      have hrow : row ≠ [] := by
        rcases h6 with z | z
        · exact z
        · intro e
          subst e
          rw [List.append_nil] at hm
          exact z hm
      obtain ⟨i, z, rfl⟩ : ∃ i z, row = i ++ [z] := by
        obtain ⟨z, hz⟩ : ∃ z, row.getLast? = some z := ⟨_, List.getLast?_eq_some_getLast hrow⟩
        obtain ⟨i, hi⟩ := List.getLast?_eq_some_iff.mp hz
        exact ⟨i, z, hi⟩
      have hzx : step p z = x := Ch.last (R := RR p) (a := i) (by simpa using h4)
      have hz := h1 z (by simp)
      have nmet : x ∉ met := fun m => hz.2 (back z hz.1 (by rw [hzx]; exact m))
      have hx : x ∈ i ++ [z] := (List.mem_append.mp hm).resolve_left nmet
      have hhead : (i ++ [z]).head? = some x := by
        obtain ⟨c, d, e⟩ := List.append_of_mem hx
        cases c with
        | nil => rw [e]; rfl
        | cons u c =>
          exfalso
          obtain ⟨c', w, ew⟩ : ∃ c' w, u :: c = c' ++ [w] := by
            obtain ⟨w, hw⟩ : ∃ w, (u :: c).getLast? = some w := ⟨_, List.getLast?_eq_some_getLast (by simp)⟩
            obtain ⟨c', hc⟩ := List.getLast?_eq_some_iff.mp hw
            exact ⟨c', w, hc⟩
          rw [ew] at e
          have ch : Ch (RR p) (c' ++ w :: x :: (d ++ [x])) := by
            rw [e] at h4
            simpa using h4
          have hw : step p w = x := (((Ch_app _ _ _).mp ch).2).1
          have wp : w ∈ i ++ [z] := by rw [e]; simp
          have ewz := hp.inj (h1 w wp).1 hz.1 (hw.trans hzx.symm)
          subst ewz
          rw [e] at h2
          have nd := h2
          -- w stands before x, and last
          have l1 : (c' ++ [w] ++ x :: d).getLast? = some w := by rw [← e]; simp
          have : w ∈ x :: d := by
            rw [List.getLast?_append] at l1
            have : (x :: d).getLast? = some w := by
              cases q : (x :: d).getLast? with
              | none => simp at q
              | some v => rw [q] at l1; simpa using l1
            exact List.mem_of_getLast? this
          exact (List.nodup_append.mp nd).2.2 w (by simp) w this rfl
      refine ⟨h1, h2, ?_, fun f hf => ?_⟩
      · cases hr : i ++ [z] with
        | nil => simp at hr
        | cons u t =>
          rw [hr] at hhead
          have : u = x := by simpa using hhead
          subst this
          exact ⟨u, t, rfl, by rw [hr] at h4; exact h4⟩
      · rw [List.head?_append] at hf
        cases q : (i ++ [z]).head? with
        | none => rw [q] at hhead; cases hhead
        | some v => rw [q] at hf; simpa using hf
    · rw [if_neg hm]
      have hm1 : x ∉ met := fun m => hm (List.mem_append_left _ m)
      have hm2 : x ∉ row := fun m => hm (List.mem_append_right _ m)
      have := ih (row ++ [x]) (step p x) (fun y m => by
        rcases List.mem_append.mp m with m | m
        · exact h1 y m
        · rw [List.mem_singleton.mp m]
          exact ⟨h3, hm1⟩) (List.nodup_append.mpr ⟨h2, by simp, fun a ma b mb e => by
            subst e
            rw [List.mem_singleton.mp mb] at ma
            exact hm2 ma⟩) (hp.step h3) (by
        rw [List.append_assoc]
        exact (Ch_app row x [step p x]).mpr ⟨h4, rfl, trivial⟩) (by rw [List.length_append, List.length_singleton]; omega) (.inl (by simp))
      refine ⟨this.1, this.2.1, this.2.2.1, fun f hf => this.2.2.2 f ?_⟩
      rw [List.head?_append, hf]
      rfl
end FG

set_option Elab.async false
set_option linter.all false
namespace FG

theorem cyc_pred {R : Int → Int → Prop} {r : List Int} (h : Cyc R r) {z : Int} (hz : z ∈ r) : ∃ y ∈ r, R y z := by
  obtain ⟨c, d, rfl⟩ := List.append_of_mem hz
  obtain ⟨u, t, e, k⟩ := h.rot
  rw [List.cons_append] at e
  cases e
  obtain ⟨y, hy⟩ : ∃ y, (z :: (d ++ c)).getLast? = some y := ⟨_, List.getLast?_eq_some_getLast (by simp)⟩
  obtain ⟨i, hi⟩ := List.getLast?_eq_some_iff.mp hy
  refine ⟨y, ?_, ?_⟩
  · have : y ∈ z :: (d ++ c) := List.mem_of_getLast? hy
    rcases List.mem_cons.mp this with rfl | m
    · simp
    · rcases List.mem_append.mp m with m | m <;> simp [m]
  · rw [hi] at k
    exact Ch.last (R := R) (a := i) (by simpa using k)
theorem rowsGo_ok {n : Nat} {p : List Int} (hp : Plate n p) : ∀ (fs : List Int) (rs : List (List Int)), (∀ f ∈ fs, f ∈ p) → (∀ r ∈ rs, Cyc (RR p) r) → rs.flatten.Nodup → (∀ x ∈ rs.flatten, x ∈ p) →
    (∀ r ∈ rowsGo p fs rs, Cyc (RR p) r) ∧ (rowsGo p fs rs).flatten.Nodup ∧ (∀ x ∈ (rowsGo p fs rs).flatten, x ∈ p) ∧ (∀ x, x ∈ rs.flatten ∨ x ∈ fs → x ∈ (rowsGo p fs rs).flatten)
  | [], rs, _, h2, h3, h4 => ⟨h2, h3, h4, fun x h => h.resolve_right (by simp)⟩
  | f :: fs, rs, h1, h2, h3, h4 => by
    have hf := h1 f List.mem_cons_self
    have h1' : ∀ g ∈ fs, g ∈ p := fun g m => h1 g (List.mem_cons_of_mem _ m)
    unfold rowsGo
    by_cases hm : f ∈ rs.flatten
    · have e : walk p rs.flatten (p.length + 1) [] f = [] := by
        unfold walk
        rw [if_pos (by simpa using hm)]
      rw [if_pos e]
      obtain ⟨a, b, c, d⟩ := rowsGo_ok hp fs rs h1' h2 h3 h4
      refine ⟨a, b, c, fun x h => d x ?_⟩
      rcases h with h | h
      · exact .inl h
      · rcases List.mem_cons.mp h with rfl | h
        · exact .inl hm
        · exact .inr h
    · have back : ∀ x ∈ p, step p x ∈ rs.flatten → x ∈ rs.flatten := fun x hx m => by
        obtain ⟨r, mr, m⟩ := List.mem_flatten.mp m
        obtain ⟨y, my, hy⟩ := cyc_pred (h2 r mr) m
        have := hp.inj (h4 y (List.mem_flatten.mpr ⟨r, mr, my⟩)) hx hy
        subst this
        exact List.mem_flatten.mpr ⟨r, mr, my⟩
      obtain ⟨w1, w2, w3, w4⟩ := walk_ok hp back (p.length + 1) [] f (by simp) .nil hf trivial (by simp) (.inr hm)
      generalize walk p rs.flatten (p.length + 1) [] f = r at w1 w2 w3 w4
      have hr : r ≠ [] := by
        intro e
        subst e
        obtain ⟨x, t, e, _⟩ := w3
        cases e
      rw [if_neg hr]
      have hfr : f ∈ r := List.mem_of_head? (w4 f rfl)
      have fl : (rs ++ [r]).flatten = rs.flatten ++ r := by simp
      obtain ⟨a, b, c, d⟩ := rowsGo_ok hp fs (rs ++ [r]) h1' (fun q m => by
        rcases List.mem_append.mp m with m | m
        · exact h2 q m
        · rw [List.mem_singleton.mp m]; exact w3) (by
        rw [fl]
        exact List.nodup_append.mpr ⟨h3, w2, fun x mx y my e => (w1 y my).2 (by rw [← e]; exact mx)⟩) (by
        rw [fl]
        intro x m
        rcases List.mem_append.mp m with m | m
        · exact h4 x m
        · exact (w1 x m).1)
      refine ⟨a, b, c, fun x h => d x ?_⟩
      rw [fl]
      rcases h with h | h
      · exact .inl (List.mem_append_left _ h)
      · rcases List.mem_cons.mp h with rfl | h
        · exact .inl (List.mem_append_right _ hfr)
        · exact .inr h
theorem rows_dec {n : Nat} {p : List Int} (hp : Plate n p) : Dec (RR p) p (rows p) := by
  obtain ⟨a, b, c, d⟩ := rowsGo_ok hp p [] (fun _ m => m) (by simp) .nil (by simp)
  exact ⟨(List.perm_ext_iff_of_nodup b hp.nd).mpr fun x => ⟨c x, fun m => d x (.inr m)⟩, a⟩
theorem rims_dec {n : Nat} {p : List Int} (hp : Plate n p) {R : List (List Int)} (d : Dec (RR p) p R) : rims p = srt (R.map ring) :=
  srt_perm (dec_unique (fun x y z h1 h2 => h1.symm.trans h2) _ _ p hp.nd hp.nz (rows_dec hp) d)
/-! ### an end slid over the next one -/
def slideL (e o : Int) (p : List Int) : List Int := (p.filter fun y => decide (y ≠ e)).flatMap fun y => if y = -o then [y, e] else [y]
def subw (e o : Int) (y : Int) : List Int := if y = e then [o, e] else if y = -e then [-e, -o] else [y]
theorem slideL_app (e o : Int) (a b : List Int) : slideL e o (a ++ b) = slideL e o a ++ slideL e o b := by
  unfold slideL
  rw [List.filter_append, List.flatMap_append]
theorem slideL_id {e o : Int} : ∀ {a : List Int}, e ∉ a → -o ∉ a → slideL e o a = a
  | [], _, _ => rfl
  | x :: a, h1, h2 => by
    have e1 : slideL e o a = a := slideL_id (fun m => h1 (List.mem_cons_of_mem _ m)) fun m => h2 (List.mem_cons_of_mem _ m)
    have n1 : x ≠ e := fun z => h1 (by rw [z]; simp)
    have n2 : x ≠ -o := fun z => h2 (by rw [z]; simp)
    have := slideL_app e o [x] a
    rw [e1] at this
    rw [show x :: a = [x] ++ a from rfl, this]
    simp [slideL, n1, n2]
theorem flat_id {e o : Int} : ∀ {r : List Int}, e ∉ r → -e ∉ r → flat (subw e o) r = r
  | [], _, _ => rfl
  | x :: r, h1, h2 => by
    have n1 : x ≠ e := fun z => h1 (by rw [z]; simp)
    have n2 : x ≠ -e := fun z => h2 (by rw [z]; simp)
    rw [flat_cons, flat_id (fun m => h1 (List.mem_cons_of_mem _ m)) fun m => h2 (List.mem_cons_of_mem _ m)]
    simp [subw, n1, n2]
/-- rows may be turned and exchanged -/
theorem Dec.of_mem {R : Int → Int → Prop} {p : List Int} {rs : List (List Int)} (d : Dec R p rs) (hn : p.Nodup) {x : Int} (hx : x ∈ p) : ∃ t rest, Dec R p ((x :: t) :: rest) ∧ rs.length = rest.length + 1 ∧ ∀ f : Int → List Int, (∀ y ∈ p, ∀ z ∈ f y, z ≠ 0) → (rs.map fun r => ring (flat f r)).Perm (((x :: t) :: rest).map fun r => ring (flat f r)) := by
  obtain ⟨q, mq, xq⟩ := List.mem_flatten.mp (d.perm.mem_iff.mpr hx)
  obtain ⟨A, B, rfl⟩ := List.append_of_mem mq
  obtain ⟨c, e, rfl⟩ := List.append_of_mem xq
  refine ⟨e ++ c, A ++ B, ⟨?_, fun r m => ?_⟩, by simp; omega, fun f hf => ?_⟩
  · refine List.Perm.trans ?_ d.perm
    have h1 : ((x :: (e ++ c)) ++ (A.flatten ++ B.flatten)).Perm ((c ++ x :: e) ++ (A.flatten ++ B.flatten)) := List.Perm.append_right _ (List.perm_append_comm (l₁ := x :: e) (l₂ := c))
    have h2 := List.Perm.append_right B.flatten (List.perm_append_comm (l₁ := c ++ x :: e) (l₂ := A.flatten))
    have h1 : ((x :: (e ++ c)) :: (A ++ B)).flatten.Perm ((c ++ x :: e) ++ (A.flatten ++ B.flatten)) := by simpa [List.flatten_append] using h1
    have h2 : ((c ++ x :: e) ++ (A.flatten ++ B.flatten)).Perm ((A ++ (c ++ x :: e) :: B).flatten) := by simpa [List.flatten_append, List.append_assoc] using h2
    exact h1.trans h2
  · rcases List.mem_cons.mp m with rfl | m
    · have := (d.cyc _ mq).rot
      simpa using this
    · refine d.cyc r ?_
      rcases List.mem_append.mp m with m | m
      · exact List.mem_append_left _ m
      · exact List.mem_append_right _ (List.mem_cons_of_mem _ m)
  · have er : ring (flat f (c ++ x :: e)) = ring (flat f (x :: (e ++ c))) := by
      rw [flat_app, show x :: (e ++ c) = (x :: e) ++ c from rfl, flat_app]
      refine ring_rot _ fun z m => ?_
      obtain ⟨y, my, mz⟩ := List.mem_flatMap.mp m
      exact hf y (d.perm.mem_iff.mp (List.mem_flatten.mpr ⟨_, mq, List.mem_append_left _ my⟩)) z mz
    rw [List.map_append, List.map_cons, List.map_cons, er, List.map_append]
    exact List.perm_middle
theorem Ch.snoc_last {R : Int → Int → Prop} {a : List Int} {x y : Int} (h : Ch R (a ++ [x])) (k : R x y) : Ch R (a ++ [x, y]) := (Ch_app a x [y]).mpr ⟨h, k, trivial⟩
theorem split_last {x : Int} {t : List Int} : ∃ i z, x :: t = i ++ [z] := by
  obtain ⟨z, hz⟩ : ∃ z, (x :: t).getLast? = some z := ⟨_, List.getLast?_eq_some_getLast (by simp)⟩
  obtain ⟨i, hi⟩ := List.getLast?_eq_some_iff.mp hz
  exact ⟨i, z, hi⟩
section
variable {e o : Int} {m1 m2 : List Int}
/-- the neighbours, before and behind -/
theorem nx_o (hn : (o :: m1 ++ -o :: e :: m2).Nodup) : nxt (o :: m1 ++ -o :: e :: m2) (-o) = e := nxt_mid (a := o :: m1) fun m => (List.nodup_append.mp hn).2.2 _ m (-o) (by simp) rfl
theorem nx_e (hn : (o :: m1 ++ -o :: e :: m2).Nodup) : nxt (o :: m1 ++ -o :: e :: m2) e = m2.headD o := by
  have ne : e ∉ o :: m1 ++ [-o] := fun m => by
    have : (o :: m1 ++ [-o] ++ e :: m2).Nodup := by simpa using hn
    exact (List.nodup_append.mp this).2.2 _ m e (by simp) rfl
  cases m2 with
  | nil =>
    have := nxt_end (b := m1 ++ [-o]) (x := e) (y := o) (by simpa using ne)
    simpa using this
  | cons q m2 =>
    have := nxt_mid (a := o :: m1 ++ [-o]) (b := m2) (x := e) (y := q) ne
    simpa using this
theorem px_o (hn : (e :: o :: (m1 ++ -o :: m2)).Nodup) : nxt (e :: o :: (m1 ++ -o :: m2)) (-o) = m2.headD e := by
  have ne : -o ∉ e :: o :: m1 := fun m => by
    have : (e :: o :: m1 ++ -o :: m2).Nodup := by simpa using hn
    exact (List.nodup_append.mp this).2.2 _ m (-o) (by simp) rfl
  cases m2 with
  | nil =>
    have := nxt_end (b := o :: m1) (x := -o) (y := e) ne
    simpa using this
  | cons q m2 =>
    have := nxt_mid (a := e :: o :: m1) (b := m2) (x := -o) (y := q) ne
    simpa using this
theorem nx_else (hn : (e :: o :: (m1 ++ -o :: m2)).Nodup) (hn' : (o :: m1 ++ -o :: e :: m2).Nodup) {u : Int} (hu : u ∈ e :: o :: (m1 ++ -o :: m2)) (h1 : u ≠ e) (h2 : u ≠ -o) :
    (nxt (e :: o :: (m1 ++ -o :: m2)) u ≠ e → nxt (o :: m1 ++ -o :: e :: m2) u = nxt (e :: o :: (m1 ++ -o :: m2)) u) ∧ (nxt (e :: o :: (m1 ++ -o :: m2)) u = e → nxt (o :: m1 ++ -o :: e :: m2) u = o) := by
  have hm : u ∈ o :: m1 ∨ u ∈ m2 := by
    rcases List.mem_cons.mp hu with z | m
    · exact absurd z h1
    · rcases List.mem_cons.mp m with z | m
      · exact .inl (by rw [z]; simp)
      · rcases List.mem_append.mp m with m | m
        · exact .inl (List.mem_cons_of_mem _ m)
        · rcases List.mem_cons.mp m with z | m
          · exact absurd z h2
          · exact .inr m
  rcases hm with hm | hm
  · obtain ⟨c, d, ecd⟩ := List.append_of_mem hm
    have f1 : e :: o :: (m1 ++ -o :: m2) = (e :: c) ++ u :: (d ++ -o :: m2) := by
      have : o :: (m1 ++ -o :: m2) = (o :: m1) ++ -o :: m2 := rfl
      rw [this, ecd]; simp
    have f2 : o :: m1 ++ -o :: e :: m2 = c ++ u :: (d ++ -o :: e :: m2) := by rw [ecd]; simp
    have g1 : u ∉ e :: c := fun m => by
      rw [f1] at hn
      exact (List.nodup_append.mp hn).2.2 _ m u (by simp) rfl
    have g2 : u ∉ c := fun m => g1 (List.mem_cons_of_mem _ m)
    have ne : ∀ y, y ∈ d ++ -o :: m2 → y ≠ e := fun y m z => by
      rw [f1, List.cons_append, List.nodup_cons] at hn
      refine hn.1 ?_
      rw [← z]
      exact List.mem_append_right _ (List.mem_cons_of_mem _ m)
    rw [f1, f2]
    cases d with
    | nil =>
      have a1 := nxt_mid (a := e :: c) (b := m2) (x := u) (y := -o) g1
      have a2 := nxt_mid (a := c) (b := e :: m2) (x := u) (y := -o) g2
      rw [List.nil_append, List.nil_append, a1, a2]
      exact ⟨fun _ => rfl, fun z => absurd z (ne _ (by simp))⟩
    | cons y d =>
      have a1 := nxt_mid (a := e :: c) (b := d ++ -o :: m2) (x := u) (y := y) g1
      have a2 := nxt_mid (a := c) (b := d ++ -o :: e :: m2) (x := u) (y := y) g2
      rw [show e :: c ++ u :: (y :: d ++ -o :: m2) = e :: c ++ u :: y :: (d ++ -o :: m2) from rfl, show c ++ u :: (y :: d ++ -o :: e :: m2) = c ++ u :: y :: (d ++ -o :: e :: m2) from rfl, a1, a2]
      exact ⟨fun _ => rfl, fun z => absurd z (ne _ (by simp))⟩
  · obtain ⟨c, d, rfl⟩ := List.append_of_mem hm
    have g1 : u ∉ e :: o :: (m1 ++ -o :: c) := fun m => by
      have : ((e :: o :: (m1 ++ -o :: c)) ++ u :: d).Nodup := by simpa using hn
      exact (List.nodup_append.mp this).2.2 _ m u (by simp) rfl
    have g2 : u ∉ o :: m1 ++ -o :: e :: c := fun m => by
      have : ((o :: m1 ++ -o :: e :: c) ++ u :: d).Nodup := by simpa using hn'
      exact (List.nodup_append.mp this).2.2 _ m u (by simp) rfl
    cases d with
    | nil =>
      have a1 := nxt_end (b := o :: (m1 ++ -o :: c)) (x := u) (y := e) g1
      have a2 := nxt_end (b := m1 ++ -o :: e :: c) (x := u) (y := o) (by simpa using g2)
      rw [show e :: o :: (m1 ++ -o :: (c ++ [u])) = e :: o :: (m1 ++ -o :: c) ++ [u] by simp, a1]
      rw [show o :: m1 ++ -o :: e :: (c ++ [u]) = o :: (m1 ++ -o :: e :: c) ++ [u] by simp, a2]
      exact ⟨fun z => absurd rfl z, fun _ => rfl⟩
    | cons y d =>
      have a1 := nxt_mid (a := e :: o :: (m1 ++ -o :: c)) (b := d) (x := u) (y := y) g1
      have a2 := nxt_mid (a := o :: m1 ++ -o :: e :: c) (b := d) (x := u) (y := y) g2
      rw [show e :: o :: (m1 ++ -o :: (c ++ u :: y :: d)) = (e :: o :: (m1 ++ -o :: c)) ++ u :: y :: d by simp, a1]
      rw [show o :: m1 ++ -o :: e :: (c ++ u :: y :: d) = (o :: m1 ++ -o :: e :: c) ++ u :: y :: d by simp, a2]
      refine ⟨fun _ => rfl, fun z => ?_⟩
      exfalso
      rw [List.nodup_cons] at hn
      refine hn.1 ?_
      rw [← z]
      simp
end
end FG

set_option Elab.async false
set_option linter.all false
set_option maxHeartbeats 1000000
namespace FG

theorem Plate.perm {n : Nat} {p q : List Int} (h : Plate n p) (k : q.Perm p) : Plate n q := ⟨k.symm.nodup h.nd, fun x => by rw [k.mem_iff, h.mem]⟩
theorem drop_mem {x u z : Int} {s : List Int} (h : u ∈ (x :: (s ++ [z])).dropLast) : u ∈ x :: s := by
  rw [show x :: (s ++ [z]) = (x :: s) ++ [z] from rfl, List.dropLast_concat] at h
  exact h
theorem slide_rows {n : Nat} {p : List Int} {e o : Int} {R : List (List Int)} (hp : Plate n p) (he : e ∈ p) (ho : nxt p e = o) (hne : o ≠ -e) (d : Dec (RR p) p R) :
    Plate n (slideL e o p) ∧ ∃ R', Dec (RR (slideL e o p)) (slideL e o p) R' ∧ R'.length = R.length ∧ (R'.map ring).Perm (R.map fun r => ring (flat (subw e o) r)) := by
  have ez := hp.nz e he
  have hop : o ∈ p := by rw [← ho]; exact nxt_mem he
  have oz := hp.nz o hop
  obtain ⟨a, b, epa⟩ := List.append_of_mem he
  -- the plate told from e on
  obtain ⟨q, m, eqm⟩ : ∃ q m, b ++ a = q :: m := by
    cases hba : b ++ a with
    | nil =>
      obtain ⟨rfl, rfl⟩ := List.append_eq_nil_iff.mp hba
      have := hp.neg he
      rw [epa] at this
      have : -e = e := by simpa using this
      omega
    | cons q m => exact ⟨q, m, rfl⟩
  have pr : (e :: (b ++ a)).Perm p := by rw [epa]; exact List.perm_append_comm (l₁ := e :: b) (l₂ := a)
  have rot : ∀ x ∈ p, nxt p x = nxt (e :: (b ++ a)) x := fun x m => by
    rw [epa] at m ⊢
    exact nxt_rot (by rw [← epa]; exact hp.nd) m
  have eqo : q = o := by
    rw [rot e he, eqm] at ho
    rw [← ho]
    exact (nxt_mid (a := []) (by simp)).symm
  subst eqo
  have nP : (e :: q :: m).Nodup := by rw [← eqm]; exact pr.symm.nodup hp.nd
  have hmo : -q ∈ m := by
    have : -q ∈ e :: q :: m := by rw [← eqm]; exact pr.mem_iff.mpr (hp.neg hop)
    rcases List.mem_cons.mp this with z | m
    · omega
    · rcases List.mem_cons.mp m with z | m
      · omega
      · exact m
  obtain ⟨m1, m2, rfl⟩ := List.append_of_mem hmo
  have e_q : e ≠ q := fun z => by rw [z] at nP; simp at nP
  have e1 : e ∉ q :: m1 := fun z => (List.nodup_cons.mp nP).1 (by
    rcases List.mem_cons.mp z with z | z
    · rw [z]; simp
    · exact List.mem_cons_of_mem _ (List.mem_append_left _ z))
  have e2 : e ∉ m2 := fun z => (List.nodup_cons.mp nP).1 (List.mem_cons_of_mem _ (List.mem_append_right _ (List.mem_cons_of_mem _ z)))
  have nq : (m1 ++ -q :: m2).Nodup := (List.nodup_cons.mp (List.nodup_cons.mp nP).2).2
  have o1 : -q ∉ q :: m1 := fun z => by
    rcases List.mem_cons.mp z with z | z
    · omega
    · exact (List.nodup_append.mp nq).2.2 _ z (-q) (by simp) rfl
  have o2 : -q ∉ m2 := (List.nodup_cons.mp (List.nodup_append.mp nq).2.1).1
  have sl : slideL e q (e :: (b ++ a)) = q :: m1 ++ -q :: e :: m2 := by
    rw [eqm, show e :: q :: (m1 ++ -q :: m2) = [e] ++ ((q :: m1) ++ ([-q] ++ m2)) by simp, slideL_app, slideL_app, slideL_app, slideL_id e1 o1, slideL_id e2 o2]
    have s1 : slideL e q [e] = [] := by simp [slideL]
    have s2 : slideL e q [-q] = [-q, e] := by
      have : -q ≠ e := by omega
      simp [slideL, this]
    rw [s1, s2]
    simp
  have sp : slideL e q p = slideL e q a ++ slideL e q (e :: b) := by rw [epa, slideL_app]
  have sP : slideL e q (e :: (b ++ a)) = slideL e q (e :: b) ++ slideL e q a := by rw [show e :: (b ++ a) = (e :: b) ++ a from rfl, slideL_app]
  have pp1 : (slideL e q p).Perm (q :: m1 ++ -q :: e :: m2) := by
    rw [sp, ← sl, sP]
    exact List.perm_append_comm
  have pp2 : (q :: m1 ++ -q :: e :: m2).Perm (e :: q :: (m1 ++ -q :: m2)) := by
    have : (q :: m1 ++ -q :: e :: m2).Perm (e :: ((q :: m1 ++ [-q]) ++ m2)) := by
      have := List.perm_middle (a := e) (l₁ := q :: m1 ++ [-q]) (l₂ := m2)
      simpa using this
    simpa using this
  have pp : (slideL e q p).Perm p := (pp1.trans pp2).trans (by rw [← eqm]; exact pr)
  have hp' : Plate n (slideL e q p) := hp.perm pp
  have nP' : (q :: m1 ++ -q :: e :: m2).Nodup := pp2.symm.nodup nP
  have rot' : ∀ x ∈ p, nxt (slideL e q p) x = nxt (q :: m1 ++ -q :: e :: m2) x := fun x m => by
    rw [sp, ← sl, sP]
    refine nxt_rot (by rw [← sp]; exact hp'.nd) ?_
    rw [← sp]
    exact pp.mem_iff.mpr m
  rw [eqm] at rot
  -- what follows, before and behind
  have K1 : ∀ x y, x ∈ p → x ≠ -e → x ≠ q → y ≠ e → step p x = y → step (slideL e q p) x = y := fun x y mx h1 h2 h3 h => by
    have mn := hp.neg mx
    unfold step at h ⊢
    rw [rot _ mn] at h
    rw [rot' _ mn]
    have mP : -x ∈ e :: q :: (m1 ++ -q :: m2) := by rw [← eqm]; exact pr.mem_iff.mpr mn
    rw [(nx_else nP nP' mP (by omega) (by omega)).1 (by rw [h]; exact h3)]
    exact h
  have K2 : ∀ x, x ∈ p → x ≠ -e → x ≠ q → step p x = e → step (slideL e q p) x = q := fun x mx h1 h2 h => by
    have mn := hp.neg mx
    unfold step at h ⊢
    rw [rot _ mn] at h
    rw [rot' _ mn]
    have mP : -x ∈ e :: q :: (m1 ++ -q :: m2) := by rw [← eqm]; exact pr.mem_iff.mpr mn
    exact (nx_else nP nP' mP (by omega) (by omega)).2 h
  have K3 : step (slideL e q p) q = e := by
    unfold step
    rw [rot' _ (hp.neg hop)]
    exact nx_o nP'
  have se : step p (-e) = q := by
    unfold step
    rw [Int.neg_neg]
    exact ho
  have K4 : (step p q = e → step (slideL e q p) (-e) = q) ∧ (step p q ≠ e → step (slideL e q p) (-e) = step p q) := by
    unfold step
    rw [Int.neg_neg, rot' _ he, rot _ (hp.neg hop), nx_e nP', px_o nP]
    cases m2 with
    | nil => exact ⟨fun _ => rfl, fun z => absurd rfl z⟩
    | cons w m2 =>
      refine ⟨fun z => ?_, fun _ => rfl⟩
      exfalso
      have z : w = e := z
      exact e2 (by rw [z]; simp)
  have tame : ∀ y ∈ p, ∀ z ∈ subw e q y, z ≠ 0 := fun y my z mz => by
    have yz := hp.nz y my
    unfold subw at mz
    split at mz
    · simp at mz; omega
    · split at mz
      · simp at mz; omega
      · simp at mz; omega
  refine ⟨hp', ?_⟩
  obtain ⟨t0, rest, d1, l1, g1⟩ := d.of_mem hp.nd (hp.neg he)
  obtain ⟨x0, t0', ex, ch⟩ := d1.cyc _ List.mem_cons_self
  cases ex
  -- the row of -e goes on with q
  obtain ⟨t, rfl⟩ : ∃ t, t0 = q :: t := by
    cases t0 with
    | nil =>
      have : step p (-e) = -e := ch.1
      rw [se] at this
      exact absurd this hne
    | cons x t =>
      have : step p (-e) = x := ch.1
      rw [se] at this
      exact ⟨t, by rw [this]⟩
  have nd1 : (((-e :: q :: t) :: rest).flatten).Nodup := d1.perm.symm.nodup hp.nd
  have inp : ∀ x, x ∈ ((-e :: q :: t) :: rest).flatten → x ∈ p := fun x m => d1.perm.mem_iff.mp m
  rw [List.flatten_cons] at nd1 inp
  have ndr : (-e :: q :: t).Nodup := (List.nodup_append.mp nd1).1
  have ndrest : rest.flatten.Nodup := (List.nodup_append.mp nd1).2.1
  have dis : ∀ x ∈ rest.flatten, x ∉ -e :: q :: t := fun x m z => (List.nodup_append.mp nd1).2.2 x z x m rfl
  have t_e : -e ∉ t := fun z => (List.nodup_cons.mp ndr).1 (List.mem_cons_of_mem _ z)
  have t_q : q ∉ t := (List.nodup_cons.mp (List.nodup_cons.mp ndr).2).1
  have tp : ∀ x ∈ t, x ∈ p := fun x m => inp x (by simp [m])
  have sq : subw e q q = [q] := by
    have : ¬ q = e := fun z => e_q z.symm
    simp [subw, this, hne]
  have sme : subw e q (-e) = [-e, -q] := by
    have : ¬ -e = e := by omega
    simp [subw, this]
  have see : subw e q e = [q, e] := by simp [subw]
  have keep : ∀ r ∈ rest, e ∉ r → Cyc (RR p) r → Cyc (RR (slideL e q p)) r ∧ flat (subw e q) r = r := fun r mr ne hc => by
    have sub : ∀ x ∈ r, x ∈ rest.flatten := fun x m => List.mem_flatten.mpr ⟨r, mr, m⟩
    have n1 : -e ∉ r := fun z => dis _ (sub _ z) (by simp)
    refine ⟨?_, flat_id ne n1⟩
    obtain ⟨x, s, rfl, hc⟩ := hc
    refine ⟨x, s, rfl, hc.imp fun u v mu mv h => K1 u v ?_ ?_ ?_ ?_ h⟩
    · have mu : u ∈ x :: s := drop_mem mu
      exact inp u (List.mem_append_right _ (sub _ mu))
    · have mu : u ∈ x :: s := drop_mem mu
      intro z
      exact n1 (by rw [← z]; exact mu)
    · have mu : u ∈ x :: s := drop_mem mu
      intro z
      exact dis _ (sub _ mu) (by rw [z]; simp)
    · intro z
      have mv : v ∈ s ++ [x] := mv
      refine ne ?_
      rw [← z]
      rcases List.mem_append.mp mv with m | m
      · exact List.mem_cons_of_mem _ m
      · rw [List.mem_singleton.mp m]; simp
  by_cases het : e ∈ t
  · -- e in the same row
    obtain ⟨t1, t2, rfl⟩ := List.append_of_mem het
    have ndt : (t1 ++ e :: t2).Nodup := (List.nodup_cons.mp (List.nodup_cons.mp ndr).2).2
    have t1e : e ∉ t1 := fun z => (List.nodup_append.mp ndt).2.2 _ z e (by simp) rfl
    have t2e : e ∉ t2 := (List.nodup_cons.mp (List.nodup_append.mp ndt).2.1).1
    have ch2 : Ch (RR p) (q :: t1 ++ e :: (t2 ++ [-e])) := by simpa using ch.2
    obtain ⟨c1, c2⟩ := (Ch_app _ _ _).mp ch2
    have noe : ∀ r ∈ rest, e ∉ r := fun r mr m => dis _ (List.mem_flatten.mpr ⟨r, mr, m⟩) (by simp)
    refine ⟨(-e :: (t1 ++ q :: e :: t2)) :: rest, ⟨?_, fun r mr => ?_⟩, by simp [l1], ?_⟩
    · refine List.Perm.trans ?_ (d1.perm.trans pp.symm)
      rw [List.flatten_cons, List.flatten_cons]
      refine List.Perm.append_right _ (List.Perm.cons _ ?_)
      exact List.perm_middle (a := q) (l₁ := t1) (l₂ := e :: t2)
    · rcases List.mem_cons.mp mr with rfl | mr
      · refine ⟨-e, t1 ++ q :: e :: t2, rfl, ?_⟩
        have goal : Ch (RR (slideL e q p)) ((-e :: t1) ++ q :: (e :: t2 ++ [-e])) := by
          refine (Ch_app _ _ _).mpr ⟨?_, K3, ?_⟩
          · cases t1 with
            | nil => exact ⟨K4.1 c1.1, trivial⟩
            | cons w t1 =>
              have w1 : step p q = w := c1.1
              have we : w ≠ e := fun z => t1e (by rw [z]; simp)
              refine ⟨(K4.2 (by rw [w1]; exact we)).trans w1, ?_⟩
              obtain ⟨i, z, hi⟩ := split_last (x := w) (t := t1)
              have c3 : Ch (RR p) ((w :: t1) ++ [e]) := c1.2
              have hz : z ∈ w :: t1 := by rw [hi]; simp
              show Ch _ ((w :: t1) ++ [q])
              rw [hi] at c3 ⊢
              have c4 : Ch (RR p) (i ++ z :: [e]) := by simpa using c3
              obtain ⟨c5, c6⟩ := (Ch_app _ _ _).mp c4
              have zp : z ∈ p := tp z (List.mem_append_left _ hz)
              have := Ch.snoc_last (R := RR (slideL e q p)) (a := i) (x := z) (y := q) (c5.imp fun u v mu mv h => K1 u v ?_ ?_ ?_ ?_ h) (K2 z zp (fun y => t_e (by rw [← y]; exact List.mem_append_left _ hz)) (fun y => t_q (by rw [← y]; exact List.mem_append_left _ hz)) c6.1)
              · simpa using this
              · have mu : u ∈ w :: t1 := by rw [hi]; exact List.mem_append_left _ (by simpa using mu)
                exact tp u (List.mem_append_left _ mu)
              · have mu : u ∈ w :: t1 := by rw [hi]; exact List.mem_append_left _ (by simpa using mu)
                exact fun y => t_e (by rw [← y]; exact List.mem_append_left _ mu)
              · have mu : u ∈ w :: t1 := by rw [hi]; exact List.mem_append_left _ (by simpa using mu)
                exact fun y => t_q (by rw [← y]; exact List.mem_append_left _ mu)
              · rw [← hi] at mv
                exact fun y => t1e (by rw [← y]; exact List.mem_cons_of_mem _ mv)
          · exact Ch.imp (l := e :: (t2 ++ [-e])) c2 fun u v mu mv h => by
              have mu : u ∈ e :: t2 := drop_mem mu
              have mv : v ∈ t2 ++ [-e] := mv
              have ut : u ∈ t1 ++ e :: t2 := List.mem_append_right _ mu
              refine K1 u v (tp u ut) (fun y => t_e (by rw [← y]; exact ut)) (fun y => t_q (by rw [← y]; exact ut)) (fun y => ?_) h
              rcases List.mem_append.mp mv with m | m
              · exact t2e (by rw [← y]; exact m)
              · have := List.mem_singleton.mp m
                omega
        simpa using goal
      · exact (keep r mr (noe r mr) (d1.cyc r (List.mem_cons_of_mem _ mr))).1
    · refine List.Perm.trans (List.Perm.of_eq ?_) (g1 (subw e q) tame).symm
      rw [List.map_cons, List.map_cons]
      congr 1
      · have n1 : -e ∉ t1 := fun z => t_e (List.mem_append_left _ z)
        have n2 : -e ∉ t2 := fun z => t_e (List.mem_append_right _ (List.mem_cons_of_mem _ z))
        rw [flat_cons, flat_cons, flat_app, flat_cons, flat_id t1e n1, flat_id t2e n2, sme, sq, see]
        have := low_cancel [-e] (t1 ++ [q, e] ++ t2) (-q)
        rw [Int.neg_neg] at this
        refine ring_congr ?_
        have q1 : [-e, -q] ++ ([q] ++ (t1 ++ ([q, e] ++ t2))) = [-e] ++ -q :: q :: (t1 ++ [q, e] ++ t2) := by simp
        rw [q1, this]
        simp
      · refine List.map_congr_left fun r mr => ?_
        rw [(keep r mr (noe r mr) (d1.cyc r (List.mem_cons_of_mem _ mr))).2]
  · -- e in another row
    have er : e ∈ rest.flatten := by
      have := d1.perm.mem_iff.mpr he
      rw [List.flatten_cons] at this
      rcases List.mem_append.mp this with m | m
      · exfalso
        rcases List.mem_cons.mp m with z | m
        · omega
        · rcases List.mem_cons.mp m with z | m
          · exact e_q z
          · exact het m
      · exact m
    have d2 : Dec (RR p) rest.flatten rest := ⟨.refl _, fun r mr => d1.cyc r (List.mem_cons_of_mem _ mr)⟩
    obtain ⟨u, rest', d3, l3, g3⟩ := d2.of_mem ndrest er
    have inr : ∀ x, x ∈ ((e :: u) :: rest').flatten → x ∈ rest.flatten := fun x m => d3.perm.mem_iff.mp m
    have nd3 : (((e :: u) :: rest').flatten).Nodup := d3.perm.symm.nodup ndrest
    rw [List.flatten_cons] at inr nd3
    have eu : e ∉ u := (List.nodup_cons.mp (List.nodup_append.mp nd3).1).1
    have noe : ∀ r ∈ rest', e ∉ r := fun r mr m => (List.nodup_append.mp nd3).2.2 e (by simp) e (List.mem_flatten.mpr ⟨r, mr, m⟩) rfl
    have ur : ∀ x ∈ e :: u, x ∈ rest.flatten := fun x m => inr x (List.mem_append_left _ m)
    have ume : -e ∉ u := fun z => dis _ (ur _ (List.mem_cons_of_mem _ z)) (by simp)
    have chain : ∀ r, (∀ x ∈ r, x ∈ rest.flatten) → e ∉ r → Cyc (RR p) r → Cyc (RR (slideL e q p)) r ∧ flat (subw e q) r = r := fun r sub ne hc => by
      have n1 : -e ∉ r := fun z => dis _ (sub _ z) (by simp)
      refine ⟨?_, flat_id ne n1⟩
      obtain ⟨x, s, rfl, hc⟩ := hc
      refine ⟨x, s, rfl, hc.imp fun w v mu mv h => K1 w v ?_ ?_ ?_ ?_ h⟩
      · have mu : w ∈ x :: s := drop_mem mu
        exact inp w (List.mem_append_right _ (sub _ mu))
      · have mu : w ∈ x :: s := drop_mem mu
        intro z
        exact n1 (by rw [← z]; exact mu)
      · have mu : w ∈ x :: s := drop_mem mu
        intro z
        exact dis _ (sub _ mu) (by rw [z]; simp)
      · intro z
        have mv : v ∈ s ++ [x] := mv
        refine ne ?_
        rw [← z]
        rcases List.mem_append.mp mv with m | m
        · exact List.mem_cons_of_mem _ m
        · rw [List.mem_singleton.mp m]; simp
    have sub' : ∀ r ∈ rest', ∀ x ∈ r, x ∈ rest.flatten := fun r mr x m => inr x (List.mem_append_right _ (List.mem_flatten.mpr ⟨r, mr, m⟩))
    obtain ⟨x1, u', ex1, ch1⟩ := d3.cyc _ List.mem_cons_self
    cases ex1
    refine ⟨(-e :: t) :: (q :: e :: u) :: rest', ⟨?_, fun r mr => ?_⟩, by simp [l1, l3], ?_⟩
    · refine List.Perm.trans ?_ (d1.perm.trans pp.symm)
      have h1 : (((e :: u) :: rest').flatten).Perm rest.flatten := d3.perm
      rw [List.flatten_cons] at h1
      have h2 : ((-e :: t) ++ ((q :: e :: u) ++ rest'.flatten)).Perm ((-e :: q :: t) ++ ((e :: u) ++ rest'.flatten)) := by
        have := List.perm_middle (a := q) (l₁ := -e :: t) (l₂ := e :: u ++ rest'.flatten)
        have k : (q :: (-e :: t ++ (e :: u ++ rest'.flatten))).Perm ((-e :: q :: t) ++ ((e :: u) ++ rest'.flatten)) := List.Perm.swap _ _ _
        exact (by simpa using this : ((-e :: t) ++ ((q :: e :: u) ++ rest'.flatten)).Perm (q :: (-e :: t ++ (e :: u ++ rest'.flatten)))).trans k
      rw [List.flatten_cons, List.flatten_cons, List.flatten_cons]
      exact h2.trans (List.Perm.append_left _ h1)
    · rcases List.mem_cons.mp mr with rfl | mr
      · refine ⟨-e, t, rfl, ?_⟩
        cases t with
        | nil =>
          have w1 : step p q = -e := ch.2.1
          exact ⟨(K4.2 (by rw [w1]; omega)).trans w1, trivial⟩
        | cons w t =>
          have w1 : step p q = w := ch.2.1
          have we : w ≠ e := fun z => het (by rw [z]; simp)
          refine ⟨(K4.2 (by rw [w1]; exact we)).trans w1, ?_⟩
          have c3 : Ch (RR p) ((w :: t) ++ [-e]) := ch.2.2
          refine Ch.imp (l := w :: t ++ [-e]) c3 fun x y mx my h => ?_
          have mx : x ∈ w :: t := drop_mem mx
          have my : y ∈ t ++ [-e] := my
          refine K1 x y (tp x mx) (fun z => t_e (by rw [← z]; exact mx)) (fun z => t_q (by rw [← z]; exact mx)) (fun z => ?_) h
          rcases List.mem_append.mp my with m | m
          · exact het (by rw [← z]; exact List.mem_cons_of_mem _ m)
          · have := List.mem_singleton.mp m
            omega
      · rcases List.mem_cons.mp mr with rfl | mr
        · refine ⟨q, e :: u, rfl, K3, ?_⟩
          obtain ⟨i, z, hi⟩ := split_last (x := e) (t := u)
          show Ch _ ((e :: u) ++ [q])
          rw [hi] at ch1 ⊢
          have c4 : Ch (RR p) (i ++ z :: [e]) := by simpa using ch1
          obtain ⟨c5, c6⟩ := (Ch_app _ _ _).mp c4
          have hz : z ∈ e :: u := by rw [hi]; simp
          have zr := ur z hz
          have := Ch.snoc_last (R := RR (slideL e q p)) (a := i) (x := z) (y := q) (c5.imp fun x y mx my h => K1 x y ?_ ?_ ?_ ?_ h) (K2 z (inp z (List.mem_append_right _ zr)) (fun y => dis _ zr (by rw [y]; simp)) (fun y => dis _ zr (by rw [y]; simp)) c6.1)
          · simpa using this
          · have mx : x ∈ e :: u := by rw [hi]; exact List.mem_append_left _ (by simpa using mx)
            exact inp x (List.mem_append_right _ (ur x mx))
          · have mx : x ∈ e :: u := by rw [hi]; exact List.mem_append_left _ (by simpa using mx)
            exact fun y => dis _ (ur x mx) (by rw [y]; simp)
          · have mx : x ∈ e :: u := by rw [hi]; exact List.mem_append_left _ (by simpa using mx)
            exact fun y => dis _ (ur x mx) (by rw [y]; simp)
          · rw [← hi] at my
            exact fun y => eu (by rw [← y]; exact my)
        · exact (chain r (sub' r mr) (noe r mr) (d3.cyc r (List.mem_cons_of_mem _ mr))).1
    · refine List.Perm.trans ?_ (g1 (subw e q) tame).symm
      show (ring (-e :: t) :: ring (q :: e :: u) :: rest'.map ring).Perm (ring (flat (subw e q) (-e :: q :: t)) :: rest.map fun r => ring (flat (subw e q) r))
      have f0 : ring (flat (subw e q) (-e :: q :: t)) = ring (-e :: t) := by
        rw [flat_cons, flat_cons, flat_id het t_e, sme, sq]
        have := low_cancel [-e] t (-q)
        rw [Int.neg_neg] at this
        refine ring_congr ?_
        have q1 : [-e, -q] ++ ([q] ++ t) = [-e] ++ -q :: q :: t := by simp
        rw [q1, this]
        rfl
      rw [f0]
      refine List.Perm.cons _ (List.Perm.trans (List.Perm.of_eq ?_) (g3 (subw e q) fun y my => tame y (inp y (List.mem_append_right _ my))).symm)
      rw [List.map_cons]
      congr 1
      · rw [flat_cons, flat_id eu ume, see]
        rfl
      · refine List.map_congr_left fun r mr => ?_
        rw [(chain r (sub' r mr) (noe r mr) (d3.cyc r (List.mem_cons_of_mem _ mr))).2]
end FG

set_option Elab.async false
set_option linter.all false
set_option maxHeartbeats 1000000
namespace FG

theorem Plate.rev {n : Nat} {p : List Int} (h : Plate n p) : Plate n p.reverse := h.perm (List.reverse_perm p)
theorem nxt_rev {p : List Int} (hn : p.Nodup) {x y : Int} (hx : x ∈ p) (h : nxt p x = y) : nxt p.reverse y = x := by
  obtain ⟨a, b, rfl⟩ := List.append_of_mem hx
  have na : x ∉ a := fun m => (List.nodup_append.mp hn).2.2 _ m x (by simp) rfl
  cases b with
  | cons z b =>
    rw [nxt_mid na] at h
    subst h
    have nb : z ∉ b.reverse := fun m => (List.nodup_cons.mp (List.nodup_cons.mp (List.nodup_append.mp hn).2.1).2).1 (by simpa using m)
    have := nxt_mid (a := b.reverse) (b := a.reverse) (x := z) (y := x) nb
    simpa using this
  | nil =>
    cases a with
    | nil =>
      have : nxt [x] x = x := nxt_one x
      rw [show ([] ++ [x] : List Int) = [x] from rfl, this] at h
      subst h
      exact nxt_one x
    | cons z a =>
      rw [show z :: a ++ [x] = z :: a ++ [x] from rfl, nxt_end na] at h
      subst h
      have nz : z ∉ x :: a.reverse := fun m => by
        rcases List.mem_cons.mp m with e | m
        · exact na (by rw [e]; simp)
        · exact (List.nodup_cons.mp (List.nodup_append.mp hn).1).1 (by simpa using m)
      have := nxt_end (b := a.reverse) (x := z) (y := x) nz
      simpa using this
theorem ch_und {p : List Int} {n : Nat} (hp : Plate n p) : ∀ l : List Int, (∀ x ∈ l, x ∈ p) → Ch (RR p) l → Ch (RR p.reverse) (und l)
  | [], _, _ => trivial
  | [x], _, _ => trivial
  | x :: y :: r, hm, h => by
    have ih := ch_und hp (y :: r) (fun z m => hm z (List.mem_cons_of_mem _ m)) h.2
    rw [und_cons, und_cons, List.append_assoc] at *
    have ih : Ch (RR p.reverse) (und r ++ -y :: []) := ih
    refine (Ch_app (und r) (-y) [-x]).mpr ⟨ih, ?_, trivial⟩
    show nxt p.reverse (- -y) = -x
    rw [Int.neg_neg]
    exact nxt_rev hp.nd (hp.neg (hm x (by simp))) h.1
theorem Dec.und {p : List Int} {n : Nat} (hp : Plate n p) {R : List (List Int)} (d : Dec (RR p) p R) : Dec (RR p.reverse) p.reverse (R.map FG.und) := by
  have mem : ∀ x, x ∈ (R.map FG.und).flatten ↔ -x ∈ R.flatten := fun x => by
    simp only [List.mem_flatten, List.mem_map]
    constructor
    · rintro ⟨_, ⟨r, mr, rfl⟩, m⟩
      exact ⟨r, mr, mem_und.mp m⟩
    · rintro ⟨r, mr, m⟩
      exact ⟨_, ⟨r, mr, rfl⟩, mem_und.mpr m⟩
  have nd : (R.map FG.und).flatten.Nodup := by
    have h0 := d.perm.symm.nodup hp.nd
    have key : ∀ S : List (List Int), S.flatten.Nodup → (S.map FG.und).flatten.Nodup := by
      intro S
      induction S with
      | nil => intro h; exact h
      | cons r S ih =>
        intro h
        rw [List.flatten_cons] at h
        rw [List.map_cons, List.flatten_cons]
        obtain ⟨a, b, c⟩ := List.nodup_append.mp h
        refine List.nodup_append.mpr ⟨?_, ih b, fun x mx y my e => ?_⟩
        · unfold FG.und
          refine (List.reverse_perm _).symm.nodup ?_
          exact List.Pairwise.map _ (fun u v q z => q (by omega)) a
        · subst e
          obtain ⟨s, ms, mx2⟩ := List.mem_flatten.mp my
          obtain ⟨t, mt, rfl⟩ := List.mem_map.mp ms
          exact c _ (mem_und.mp mx) _ (List.mem_flatten.mpr ⟨t, mt, mem_und.mp mx2⟩) rfl
    exact key R h0
  refine ⟨(List.perm_ext_iff_of_nodup nd hp.rev.nd).mpr fun x => ?_, fun r mr => ?_⟩
  · rw [mem, d.perm.mem_iff, hp.mem, hp.rev.mem]
    omega
  · obtain ⟨s, ms, rfl⟩ := List.mem_map.mp mr
    obtain ⟨x, t, rfl, hc⟩ := d.cyc s ms
    rw [und_cons]
    have : Cyc (RR p.reverse) ([-x] ++ FG.und t) := by
      refine ⟨-x, FG.und t, rfl, ?_⟩
      have := ch_und hp (x :: t ++ [x]) (fun z m => d.perm.mem_iff.mp (List.mem_flatten.mpr ⟨_, ms, by
        rcases List.mem_append.mp m with m | m
        · exact m
        · rw [List.mem_singleton.mp m]; simp⟩)) hc
      have e : FG.und (x :: t ++ [x]) = -x :: FG.und t ++ [-x] := by simp [FG.und]
      rw [e] at this
      exact this
    exact this.rot
def slideB (e o : Int) (p : List Int) : List Int := (p.filter fun y => decide (y ≠ e)).flatMap fun y => if y = -o then [e, y] else [y]
theorem slideB_rev (e o : Int) (p : List Int) : slideB e o p = (slideL e o p.reverse).reverse := by
  have key : ∀ l : List Int, (l.reverse.flatMap fun y => if y = -o then [y, e] else [y]).reverse = l.flatMap fun y => if y = -o then [e, y] else [y] := by
    intro l
    induction l with
    | nil => rfl
    | cons x l ih =>
      rw [List.reverse_cons, List.flatMap_append, List.reverse_append, ih, List.flatMap_cons]
      by_cases h : x = -o
      · simp [h]
      · simp [h]
  unfold slideB slideL
  rw [List.filter_reverse, key]
theorem odd_subw {e o : Int} (he : e ≠ 0) : Odd (subw e o) fun _ => True := fun x _ => by
  unfold subw
  by_cases h1 : x = e
  · subst h1
    have : ¬ -x = x := by omega
    simp [this, und]
  · by_cases h2 : x = -e
    · subst h2
      have : ¬ -e = e := by omega
      simp [this, und]
    · have h3 : ¬ -x = e := by omega
      have h4 : ¬ -x = -e := by omega
      rw [if_neg h3, if_neg h4, if_neg h1, if_neg h2]
      simp [und]
theorem subw_nz {e o : Int} (he : e ≠ 0) (ho : o ≠ 0) (y : Int) (hy : y ≠ 0) : ∀ z ∈ subw e o y, z ≠ 0 := fun z mz => by
  unfold subw at mz
  split at mz
  · simp at mz; omega
  · split at mz
    · simp at mz; omega
    · simp at mz; omega
theorem slide_rowsB {n : Nat} {p : List Int} {e o : Int} {R : List (List Int)} (hp : Plate n p) (hop : o ∈ p) (ho : nxt p o = e) (hne : o ≠ -e) (d : Dec (RR p) p R) :
    Plate n (slideB e o p) ∧ ∃ R', Dec (RR (slideB e o p)) (slideB e o p) R' ∧ R'.length = R.length ∧ (R'.map ring).Perm (R.map fun r => ring (flat (subw e o) r)) := by
  have he : e ∈ p := by rw [← ho]; exact nxt_mem hop
  have ez := hp.nz e he
  have oz := hp.nz o hop
  obtain ⟨h1, R1, d1, l1, g1⟩ := slide_rows hp.rev (by simpa using he) (nxt_rev hp.nd hop ho) hne (d.und hp)
  have d2 := d1.und h1
  rw [slideB_rev]
  refine ⟨h1.rev, R1.map und, d2, by simp [l1], ?_⟩
  have nzR1 : ∀ r ∈ R1, ∀ x ∈ r, x ≠ 0 := fun r mr x mx => h1.nz x (d1.perm.mem_iff.mp (List.mem_flatten.mpr ⟨r, mr, mx⟩))
  have nzR : ∀ r ∈ R, ∀ x ∈ r, x ≠ 0 := fun r mr x mx => hp.nz x (d.perm.mem_iff.mp (List.mem_flatten.mpr ⟨r, mr, mx⟩))
  have e1 : (R1.map und).map ring = (R1.map ring).map fun w => ring (und w) := by
    rw [List.map_map, List.map_map]
    exact List.map_congr_left fun r mr => (ring_und (nzR1 r mr)).symm
  rw [e1]
  refine (List.Perm.map _ g1).trans (List.Perm.of_eq ?_)
  rw [List.map_map, List.map_map]
  refine List.map_congr_left fun r mr => ?_
  show ring (und (ring (flat (subw e o) (und r)))) = ring (flat (subw e o) r)
  have nzf : ∀ x ∈ flat (subw e o) (und r), x ≠ 0 := fun x mx => by
    obtain ⟨y, my, mx⟩ := List.mem_flatMap.mp mx
    have : -y ≠ 0 := nzR r mr _ (mem_und.mp my)
    exact subw_nz ez oz y (by omega) x mx
  rw [ring_und nzf, flat_und (odd_subw ez) (fun _ _ => trivial), und_und]
/-! ### slid either way, and back -/
def slideA (ahead : Bool) (e o : Int) (p : List Int) : List Int := if ahead then slideL e o p else slideB e o p
/-- o lies next to e, ahead or behind -/
def Nbr (ahead : Bool) (p : List Int) (e o : Int) : Prop := if ahead then e ∈ p ∧ nxt p e = o else o ∈ p ∧ nxt p o = e
theorem Nbr.mem {n : Nat} {b : Bool} {p : List Int} {e o : Int} (hp : Plate n p) (h : Nbr b p e o) : e ∈ p ∧ o ∈ p := by
  unfold Nbr at h
  split at h
  · obtain ⟨h1, rfl⟩ := h
    exact ⟨h1, nxt_mem h1⟩
  · obtain ⟨h1, rfl⟩ := h
    exact ⟨nxt_mem h1, h1⟩
theorem slide_rowsA {n : Nat} {b : Bool} {p : List Int} {e o : Int} {R : List (List Int)} (hp : Plate n p) (h : Nbr b p e o) (hne : o ≠ -e) (d : Dec (RR p) p R) :
    Plate n (slideA b e o p) ∧ ∃ R', Dec (RR (slideA b e o p)) (slideA b e o p) R' ∧ R'.length = R.length ∧ (R'.map ring).Perm (R.map fun r => ring (flat (subw e o) r)) := by
  cases b with
  | true => exact slide_rows hp h.1 h.2 hne d
  | false => exact slide_rowsB hp h.1 h.2 hne d
theorem filter_ins {e k : Int} {l : List Int} (f : Int → List Int) (hf : ∀ y, y ≠ e → (f y).filter (fun y => decide (y ≠ e)) = [y]) (hl : e ∉ l) : (l.flatMap f).filter (fun y => decide (y ≠ e)) = l := by
  induction l with
  | nil => rfl
  | cons x l ih =>
    rw [List.flatMap_cons, List.filter_append, ih fun m => hl (List.mem_cons_of_mem _ m), hf x fun z => hl (by rw [z]; simp)]
    rfl
theorem filter_gone {e : Int} {l : List Int} (h : e ∉ l) : l.filter (fun y => decide (y ≠ e)) = l := by
  rw [List.filter_eq_self]
  intro y m
  exact decide_eq_true fun z => h (by rw [← z]; exact m)
theorem flatMap_gone {k : Int} {l : List Int} {f : Int → List Int} (h : ∀ y ∈ l, f y = [y]) : l.flatMap f = l := by
  induction l with
  | nil => rfl
  | cons x l ih =>
    rw [List.flatMap_cons, h x (by simp), ih fun y m => h y (List.mem_cons_of_mem _ m)]
    rfl
theorem slide_back {n : Nat} {b : Bool} {p : List Int} {e o : Int} (hp : Plate n p) (h : Nbr b p e o) (hne : o ≠ -e) : Nbr (!b) (slideA b e o p) e (-o) ∧ ∃ x y, slideA (!b) e (-o) (slideA b e o p) = x ++ y ∧ p = y ++ x := by
  obtain ⟨he, hop⟩ := h.mem hp
  have ez := hp.nz e he
  have oz := hp.nz o hop
  obtain ⟨a, c, rfl⟩ := List.append_of_mem he
  have nd := hp.nd
  have e_a : e ∉ a := fun m => (List.nodup_append.mp nd).2.2 _ m e (by simp) rfl
  have e_c : e ∉ c := (List.nodup_cons.mp (List.nodup_append.mp nd).2.1).1
  have e_ac : e ∉ a ++ c := fun m => (List.mem_append.mp m).elim e_a e_c
  have fil : (a ++ e :: c).filter (fun y => decide (y ≠ e)) = a ++ c := by
    rw [List.filter_append, List.filter_cons, filter_gone e_a, if_neg (by simp), filter_gone e_c]
  have nac : (a ++ c).Nodup := by
    rw [List.nodup_append] at nd ⊢
    exact ⟨nd.1, (List.nodup_cons.mp nd.2.1).2, fun x mx y my => nd.2.2 x mx y (List.mem_cons_of_mem _ my)⟩
  have o_e : o ≠ e := by
    intro z
    subst z
    unfold Nbr at h
    have nn : -o ∈ a ++ o :: c := hp.neg he
    have nn2 : -o ∈ a ++ c := by
      rcases List.mem_append.mp nn with m | m
      · exact List.mem_append_left _ m
      · rcases List.mem_cons.mp m with z | m
        · omega
        · exact List.mem_append_right _ m
    have key : nxt (a ++ o :: c) o = o := by
      split at h
      · exact h.2
      · exact h.2
    cases c with
    | cons q c =>
      rw [nxt_mid e_a] at key
      exact e_c (by rw [key]; simp)
    | nil =>
      cases a with
      | nil => simp at nn2
      | cons q a =>
        rw [nxt_end e_a] at key
        exact e_a (by rw [key]; simp)
  have o_ac : o ∈ a ++ c := by
    rcases List.mem_append.mp hop with m | m
    · exact List.mem_append_left _ m
    · rcases List.mem_cons.mp m with z | m
      · exact absurd z o_e
      · exact List.mem_append_right _ m
  have m_ac : -o ∈ a ++ c := by
    have := hp.neg hop
    rcases List.mem_append.mp this with m | m
    · exact List.mem_append_left _ m
    · rcases List.mem_cons.mp m with z | m
      · omega
      · exact List.mem_append_right _ m
  obtain ⟨s, t, est⟩ := List.append_of_mem m_ac
  have nst : (s ++ -o :: t).Nodup := by rw [← est]; exact nac
  have s_o : -o ∉ s := fun m => (List.nodup_append.mp nst).2.2 _ m (-o) (by simp) rfl
  have t_o : -o ∉ t := (List.nodup_cons.mp (List.nodup_append.mp nst).2.1).1
  have e_st : e ∉ s ++ -o :: t := by rw [← est]; exact e_ac
  cases b with
  | true =>
    have hA : slideA true e o (a ++ e :: c) = s ++ -o :: e :: t := by
      show slideL e o _ = _
      unfold slideL
      rw [fil, est, List.flatMap_append, List.flatMap_cons, flatMap_gone (k := 0), flatMap_gone (k := 0), if_pos rfl]
      · simp
      · exact fun y m => if_neg fun z => t_o (by rw [← z]; exact m)
      · exact fun y m => if_neg fun z => s_o (by rw [← z]; exact m)
    have hB : slideA false e (-o) (slideA true e o (a ++ e :: c)) = (a ++ c).flatMap fun y => if y = o then [e, y] else [y] := by
      show slideB e (-o) (slideL e o (a ++ e :: c)) = _
      unfold slideB slideL
      rw [fil, filter_ins (k := 0) _ _ e_ac, Int.neg_neg]
      intro y hy
      by_cases hk : y = -o
      · rw [if_pos hk]; simp [hy]
      · rw [if_neg hk]; simp [hy]
    refine ⟨?_, ?_⟩
    · rw [hA]
      show -o ∈ _ ∧ nxt _ (-o) = e
      exact ⟨by simp, nxt_mid s_o⟩
    · show ∃ x y, slideA false e (-o) _ = _ ∧ _
      rw [hB]
      have hn : nxt (a ++ e :: c) e = o := h.2
      cases c with
      | cons q c =>
        rw [nxt_mid e_a] at hn
        subst hn
        have n1 : q ∉ a := fun m => (List.nodup_append.mp nac).2.2 _ m q (by simp) rfl
        have n2 : q ∉ c := (List.nodup_cons.mp (List.nodup_append.mp nac).2.1).1
        refine ⟨[], a ++ e :: q :: c, ?_, by simp⟩
        rw [List.flatMap_append, List.flatMap_cons, flatMap_gone (k := 0), flatMap_gone (k := 0), if_pos rfl]
        · simp
        · exact fun y m => if_neg fun z => n2 (by rw [← z]; exact m)
        · exact fun y m => if_neg fun z => n1 (by rw [← z]; exact m)
      | nil =>
        cases a with
        | nil => simp at o_ac
        | cons q a =>
          rw [nxt_end e_a] at hn
          subst hn
          have n1 : q ∉ a := by
            have : (q :: a).Nodup := by simpa using nac
            exact (List.nodup_cons.mp this).1
          refine ⟨[e], q :: a, ?_, by simp⟩
          rw [List.append_nil, List.flatMap_cons, flatMap_gone (k := 0), if_pos rfl]
          · simp
          · exact fun y m => if_neg fun z => n1 (by rw [← z]; exact m)
  | false =>
    have hA : slideA false e o (a ++ e :: c) = s ++ e :: -o :: t := by
      show slideB e o _ = _
      unfold slideB
      rw [fil, est, List.flatMap_append, List.flatMap_cons, flatMap_gone (k := 0), flatMap_gone (k := 0), if_pos rfl]
      · simp
      · exact fun y m => if_neg fun z => t_o (by rw [← z]; exact m)
      · exact fun y m => if_neg fun z => s_o (by rw [← z]; exact m)
    have hB : slideA true e (-o) (slideA false e o (a ++ e :: c)) = (a ++ c).flatMap fun y => if y = o then [y, e] else [y] := by
      show slideL e (-o) (slideB e o (a ++ e :: c)) = _
      unfold slideB slideL
      rw [fil, filter_ins (k := 0) _ _ e_ac, Int.neg_neg]
      intro y hy
      by_cases hk : y = -o
      · rw [if_pos hk]; simp [hy]
      · rw [if_neg hk]; simp [hy]
    refine ⟨?_, ?_⟩
    · rw [hA]
      show e ∈ _ ∧ nxt _ e = -o
      exact ⟨by simp, nxt_mid fun m => e_st (List.mem_append_left _ m)⟩
    · show ∃ x y, slideA true e (-o) _ = _ ∧ _
      rw [hB]
      have hn : nxt (a ++ e :: c) o = e := h.2
      -- o stands before e, round the plate
      have inj : ∀ u, u ∈ a ++ e :: c → nxt (a ++ e :: c) u = e → u = o := fun u mu hu => nxt_inj hp.nd mu hop (hu.trans hn.symm)
      rcases List.eq_nil_or_concat a with rfl | ⟨a', q, rfl⟩
      · rcases List.eq_nil_or_concat c with rfl | ⟨c', q, rfl⟩
        · simp at o_ac
        · rw [List.concat_eq_append] at *
          have ne : q ∉ e :: c' := fun m => by
            have : ((e :: c') ++ [q]).Nodup := by simpa using nd
            exact (List.nodup_append.mp this).2.2 _ m q (by simp) rfl
          have qo : q = o := inj q (by simp) (by
            have := nxt_end (b := c') (x := q) (y := e) ne
            simpa using this)
          subst qo
          have n1 : q ∉ c' := fun m => ne (List.mem_cons_of_mem _ m)
          refine ⟨c' ++ [q], [e], ?_, by simp⟩
          rw [List.nil_append, List.flatMap_append, flatMap_gone (k := 0)]
          · simp
          · exact fun y m => if_neg fun z => n1 (by rw [← z]; exact m)
      · rw [List.concat_eq_append] at *
        have ne : q ∉ a' := fun m => by
          have : (a' ++ ([q] ++ c)).Nodup := by simpa using nac
          exact (List.nodup_append.mp this).2.2 _ m q (by simp) rfl
        have qo : q = o := inj q (by simp) (by
          have := nxt_mid (a := a') (b := c) (x := q) (y := e) ne
          simpa using this)
        subst qo
        have n2 : q ∉ c := fun m => by
          have : ((a' ++ [q]) ++ c).Nodup := by simpa using nac
          exact (List.nodup_append.mp this).2.2 q (by simp) q m rfl
        refine ⟨[], a' ++ [q] ++ e :: c, ?_, by simp⟩
        rw [List.flatMap_append, List.flatMap_append, flatMap_gone (k := 0) (l := a'), flatMap_gone (k := 0) (l := c)]
        · simp
        · exact fun y m => if_neg fun z => n2 (by rw [← z]; exact m)
        · exact fun y m => if_neg fun z => ne (by rw [← z]; exact m)
end FG

set_option Elab.async false
set_option linter.all false
namespace FG
/-! ### letters' words -/
def sub (ws : List (List Int)) (l : Int) : List Int := if l > 0 then ws.getD (l - 1).toNat [] else und (ws.getD (-l - 1).toNat [])
def hom (ws : List (List Int)) (w : List Int) : List Int := low (flat (sub ws) w)
def Lets (n : Nat) (w : List Int) : Prop := ∀ l ∈ w, l ≠ 0 ∧ -(n : Int) ≤ l ∧ l ≤ n
theorem sub_odd (ws : List (List Int)) : Odd (sub ws) fun x => x ≠ 0 := fun x hx => by
  unfold sub
  by_cases h : x > 0
  · have h1 : ¬ -x > 0 := by omega
    rw [if_pos h, if_neg h1, Int.neg_neg]
  · have h1 : -x > 0 := by omega
    rw [if_neg h, if_pos h1, und_und]
theorem Lets.cons {n : Nat} {x : Int} {w : List Int} (h : Lets n (x :: w)) : (x ≠ 0 ∧ -(n : Int) ≤ x ∧ x ≤ n) ∧ Lets n w := ⟨h x List.mem_cons_self, fun l m => h l (List.mem_cons_of_mem _ m)⟩
theorem Lets.app {n : Nat} {a b : List Int} (h1 : Lets n a) (h2 : Lets n b) : Lets n (a ++ b) := fun l m => (List.mem_append.mp m).elim (h1 l) (h2 l)
theorem Lets.und {n : Nat} {a : List Int} (h : Lets n a) : Lets n (und a) := fun l m => by
  have := h _ (mem_und.mp m)
  omega
theorem Lets.low {n : Nat} {a : List Int} (h : Lets n a) : Lets n (low a) := fun l m => h l (mem_low m)
theorem Lets.nz {n : Nat} {a : List Int} (h : Lets n a) : ∀ x ∈ a, x ≠ 0 := fun x m => (h x m).1
theorem sub_lets {n : Nat} {ws : List (List Int)} (h : ∀ w ∈ ws, Lets n w) (l : Int) : Lets n (sub ws l) := by
  have key : ∀ i, Lets n (ws.getD i []) := fun i => by
    rw [List.getD_eq_getElem?_getD]
    cases e : ws[i]? with
    | none => intro l m; cases m
    | some w => exact h w (List.mem_of_getElem? e)
  unfold sub
  split
  · exact key _
  · exact (key _).und
theorem flat_lets {n : Nat} {ws : List (List Int)} (h : ∀ w ∈ ws, Lets n w) (w : List Int) : Lets n (flat (sub ws) w) := fun l m => by
  obtain ⟨x, _, mx⟩ := List.mem_flatMap.mp m
  exact sub_lets h x l mx
theorem hom_lets {n : Nat} {ws : List (List Int)} (h : ∀ w ∈ ws, Lets n w) (w : List Int) : Lets n (hom ws w) := (flat_lets h w).low
theorem hom_low {n : Nat} {ws : List (List Int)} {w : List Int} (h : Lets n w) : hom ws (low w) = hom ws w := low_flat_low (sub_odd ws) h.nz
theorem hom_app (ws : List (List Int)) (a b : List Int) : hom ws (a ++ b) = low (hom ws a ++ hom ws b) := by
  unfold hom
  rw [flat_app, low_low_app, low_app_low]
theorem hom_und {n : Nat} {ws : List (List Int)} {w : List Int} (h : Lets n w) : hom ws (und w) = und (hom ws w) := by
  unfold hom
  rw [flat_und (sub_odd ws) h.nz, low_und]
theorem hom_one {ws : List (List Int)} (l : Int) : hom ws [l] = low (sub ws l) := by
  unfold hom
  rw [flat_cons, flat_nil, List.append_nil]
theorem low_und_low (w : List Int) : low (und (low w)) = low (und w) := by rw [low_und, low_und, low_low]
/-- one leading behind another -/
theorem flat_flat (f g : Int → List Int) (w : List Int) : flat f (flat g w) = flat (fun x => flat f (g x)) w := by
  induction w with
  | nil => rfl
  | cons x w ih => rw [flat_cons, flat_app, ih, flat_cons]
theorem low_flat_congr {f g : Int → List Int} {w : List Int} (h : ∀ x ∈ w, low (f x) = low (g x)) : low (flat f w) = low (flat g w) := by
  induction w with
  | nil => rfl
  | cons x w ih =>
    rw [flat_cons, flat_cons]
    exact low_congr (h x List.mem_cons_self) (ih fun y m => h y (List.mem_cons_of_mem _ m))
theorem sub_map {n m : Nat} {ws vs : List (List Int)} (hm : ∀ w ∈ vs, Lets m w) {l : Int} (hl : l ≠ 0 ∧ -(vs.length : Int) ≤ l ∧ l ≤ vs.length) : low (sub (vs.map (hom ws)) l) = hom ws (sub vs l) := by
  have key : ∀ i : Nat, i < vs.length → (vs.map (hom ws)).getD i [] = hom ws (vs.getD i []) ∧ Lets m (vs.getD i []) := fun i hi => by
    rw [List.getD_eq_getElem?_getD, List.getD_eq_getElem?_getD, List.getElem?_map, List.getElem?_eq_getElem hi]
    exact ⟨rfl, hm _ (List.getElem_mem hi)⟩
  unfold sub
  by_cases h : l > 0
  · rw [if_pos h, if_pos h, (key _ (by omega)).1]
    unfold hom
    rw [low_low]
  · rw [if_neg h, if_neg h, (key _ (by omega)).1, hom_und (key _ (by omega)).2]
    unfold hom
    rw [low_und_low, low_und]
theorem hom_hom {m : Nat} {ws vs : List (List Int)} (hm : ∀ w ∈ vs, Lets m w) {w : List Int} (hw : Lets vs.length w) : hom (vs.map (hom ws)) w = hom ws (hom vs w) := by
  have hfl : Lets m (flat (sub vs) w) := flat_lets hm w
  unfold hom
  rw [low_flat_low (sub_odd ws) hfl.nz, flat_flat]
  exact low_flat_congr fun x mx => sub_map (n := 0) hm (hw x mx)
/-- the words that leave each letter as it is -/
def ones (n : Nat) : List (List Int) := (List.range n).map fun (k : Nat) => [(k : Int) + 1]
theorem ones_length (n : Nat) : (ones n).length = n := by simp [ones]
theorem ones_get {n i : Nat} (h : i < n) : (ones n).getD i [] = [(i : Int) + 1] := by
  rw [List.getD_eq_getElem?_getD]
  unfold ones
  rw [List.getElem?_map, List.getElem?_range h]
  rfl
theorem ones_lets (n : Nat) : ∀ w ∈ ones n, Lets n w := fun w m => by
  obtain ⟨k, mk, rfl⟩ := List.mem_map.mp m
  have := List.mem_range.mp mk
  intro l ml
  rw [List.mem_singleton.mp ml]
  omega
theorem sub_ones {n : Nat} {l : Int} (h : l ≠ 0 ∧ -(n : Int) ≤ l ∧ l ≤ n) : sub (ones n) l = [l] := by
  unfold sub
  by_cases h1 : l > 0
  · rw [if_pos h1, ones_get (by omega)]
    congr 1
    omega
  · rw [if_neg h1, ones_get (by omega)]
    show [-(((-l - 1).toNat : Int) + 1)] = [l]
    congr 1
    omega
theorem hom_ones {n : Nat} {w : List Int} (h : Lets n w) : hom (ones n) w = low w := by
  unfold hom
  congr 1
  induction w with
  | nil => rfl
  | cons x w ih =>
    obtain ⟨h1, h2⟩ := h.cons
    rw [flat_cons, sub_ones h1, ih h2]
    rfl
/-- words are known by their letters -/
theorem sub_eq {vs ws : List (List Int)} (hl : vs.length = ws.length) (h : ∀ l : Int, 0 < l → l ≤ vs.length → sub vs l = sub ws l) : vs = ws := by
  apply List.ext_getElem hl
  intro i h1 h2
  have := h (i + 1) (by omega) (by omega)
  unfold sub at this
  rw [if_pos (by omega), if_pos (by omega)] at this
  have e : ((i : Int) + 1 - 1).toNat = i := by omega
  rw [e, List.getD_eq_getElem?_getD, List.getD_eq_getElem?_getD, List.getElem?_eq_getElem h1, List.getElem?_eq_getElem h2] at this
  exact this
/-- one letter's word set -/
def setw (ws : List (List Int)) (e : Int) (w : List Int) : List (List Int) := ws.set (e.natAbs - 1) (if e > 0 then w else und w)
theorem setw_length (ws : List (List Int)) (e : Int) (w : List Int) : (setw ws e w).length = ws.length := by simp [setw]
theorem sub_setw {ws : List (List Int)} {e : Int} {w : List Int} (he : e ≠ 0 ∧ -(ws.length : Int) ≤ e ∧ e ≤ ws.length) {l : Int} (hl : l ≠ 0 ∧ -(ws.length : Int) ≤ l ∧ l ≤ ws.length) : sub (setw ws e w) l = if l = e then w else if l = -e then und w else sub ws l := by
  have g : ∀ i : Nat, (setw ws e w).getD i [] = if i = e.natAbs - 1 then (if e > 0 then w else und w) else ws.getD i [] := fun i => by
    unfold setw
    rw [List.getD_eq_getElem?_getD, List.getD_eq_getElem?_getD, List.getElem?_set]
    by_cases h : e.natAbs - 1 = i
    · rw [if_pos h, if_pos h.symm, if_pos (by omega)]
      rfl
    · rw [if_neg h, if_neg (fun z => h z.symm)]
  unfold sub
  rw [g, g]
  by_cases h1 : l > 0
  · rw [if_pos h1, if_pos h1]
    by_cases h2 : l = e
    · subst h2
      rw [if_pos (by omega), if_pos h1, if_pos rfl]
    · rw [if_neg h2]
      by_cases h3 : l = -e
      · rw [if_pos (by omega), if_neg (by omega), if_pos h3]
      · rw [if_neg (by omega), if_neg h3]
  · rw [if_neg h1, if_neg h1]
    by_cases h2 : l = e
    · subst h2
      rw [if_pos (by omega), if_neg h1, if_pos rfl, und_und]
    · rw [if_neg h2]
      by_cases h3 : l = -e
      · rw [if_pos (by omega), if_pos (by omega), if_pos h3]
      · rw [if_neg (by omega), if_neg h3]
/-- a slide's words -/
def slidw (n : Nat) (e o : Int) : List (List Int) := setw (ones n) e [o, e]
theorem slidw_length (n : Nat) (e o : Int) : (slidw n e o).length = n := by rw [slidw, setw_length, ones_length]
theorem sub_slidw {n : Nat} {e o l : Int} (he : e ≠ 0 ∧ -(n : Int) ≤ e ∧ e ≤ n) (hl : l ≠ 0 ∧ -(n : Int) ≤ l ∧ l ≤ n) : sub (slidw n e o) l = subw e o l := by
  unfold slidw
  rw [sub_setw (by rw [ones_length]; exact he) (by rw [ones_length]; exact hl), sub_ones hl]
  rfl
theorem slidw_lets {n : Nat} {e o : Int} (he : e ≠ 0 ∧ -(n : Int) ≤ e ∧ e ≤ n) (ho : o ≠ 0 ∧ -(n : Int) ≤ o ∧ o ≤ n) : ∀ w ∈ slidw n e o, Lets n w := fun w m => by
  unfold slidw setw at m
  rcases List.mem_or_eq_of_mem_set m with m | rfl
  · exact ones_lets n w m
  · split
    · intro l ml
      simp at ml
      omega
    · intro l ml
      simp [und] at ml
      omega
end FG

set_option Elab.async false
set_option linter.all false
namespace FG
theorem nxt_ne {p : List Int} (hn : p.Nodup) {u v : Int} (hu : u ∈ p) (hv : v ∈ p) (h : u ≠ v) : nxt p u ≠ u := by
  intro e
  obtain ⟨a, b, rfl⟩ := List.append_of_mem hu
  have na : u ∉ a := fun m => (List.nodup_append.mp hn).2.2 _ m u (by simp) rfl
  have nb : u ∉ b := (List.nodup_cons.mp (List.nodup_append.mp hn).2.1).1
  cases b with
  | cons y b =>
    rw [nxt_mid na] at e
    exact nb (by rw [e]; simp)
  | nil =>
    cases a with
    | nil =>
      have : v = u := by simpa using hv
      exact h this.symm
    | cons y a =>
      rw [nxt_end na] at e
      exact na (by rw [e]; simp)
theorem row_red {n : Nat} {p : List Int} (hp : Plate n p) : ∀ l : List Int, (∀ x ∈ l, x ∈ p) → Ch (RR p) l → Red l
  | [], _, _ => trivial
  | [_], _, _ => trivial
  | x :: y :: r, hm, h => by
    refine ⟨fun z => ?_, row_red hp (y :: r) (fun w m => hm w (List.mem_cons_of_mem _ m)) h.2⟩
    have hx := hm x List.mem_cons_self
    have h1 : nxt p (-x) = y := h.1
    rw [z] at h1
    have := hp.nz x hx
    exact nxt_ne hp.nd (hp.neg hx) hx (by omega) h1
theorem rmin_perm (c : List Int) : (rmin c).Perm c := by
  by_cases h : c = []
  · subst h; exact .nil
  · obtain ⟨a, b, h1, h2⟩ := rmin_spec h
    rw [h2]
    conv => rhs; rw [h1]
    exact List.perm_append_comm
theorem ring_row {n : Nat} {p r : List Int} (hp : Plate n p) (hm : ∀ x ∈ r, x ∈ p) (hc : Cyc (RR p) r) : ring r ≠ [] := by
  obtain ⟨x, t, rfl, ch⟩ := hc
  have hr : Red (x :: t ++ [x]) := row_red hp _ (fun z m => by
    rcases List.mem_append.mp m with m | m
    · exact hm z m
    · rw [List.mem_singleton.mp m]; exact hm x List.mem_cons_self) ch
  have h1 : low (x :: t) = x :: t := low_of_red (red_left hr)
  have h2 : core (x :: t) = x :: t := core_out fun z e => red_last hr e
  unfold ring
  rw [h1, h2]
  intro e
  have := (rmin_perm (x :: t)).length_eq
  rw [e] at this
  simp at this
theorem Plate.length {n : Nat} {p : List Int} (hp : Plate n p) : p.length = 2 * n := by
  have h : p.Perm ((List.range n).map (fun (k : Nat) => (k : Int) + 1) ++ (List.range n).map (fun (k : Nat) => -(k : Int) - 1)) := by
    refine (List.perm_ext_iff_of_nodup hp.nd ?_).mpr fun x => ?_
    · refine List.nodup_append.mpr ⟨?_, ?_, fun a ma b mb e => ?_⟩
      · exact List.Pairwise.map _ (fun u v q z => q (by omega)) List.nodup_range
      · exact List.Pairwise.map _ (fun u v q z => q (by omega)) List.nodup_range
      · obtain ⟨i, _, rfl⟩ := List.mem_map.mp ma
        obtain ⟨j, _, rfl⟩ := List.mem_map.mp mb
        omega
    · rw [hp.mem, List.mem_append, List.mem_map, List.mem_map]
      constructor
      · intro h
        by_cases hx : 0 < x
        · exact .inl ⟨(x - 1).toNat, List.mem_range.mpr (by omega), by omega⟩
        · exact .inr ⟨(-x - 1).toNat, List.mem_range.mpr (by omega), by omega⟩
      · rintro (⟨k, hk, rfl⟩ | ⟨k, hk, rfl⟩)
        · have := List.mem_range.mp hk
          omega
        · have := List.mem_range.mp hk
          omega
  have := h.length_eq
  rw [this]
  simp
  omega
theorem rows_len {R : Int → Int → Prop} : ∀ {rs : List (List Int)}, (∀ r ∈ rs, Cyc R r) → rs.length ≤ rs.flatten.length
  | [], _ => by simp
  | r :: rs, h => by
    have ih := rows_len (rs := rs) fun q m => h q (List.mem_cons_of_mem _ m)
    obtain ⟨x, t, rfl, _⟩ := h r List.mem_cons_self
    rw [List.flatten_cons, List.length_append, List.length_cons, List.length_cons]
    omega
theorem walk_len {n : Nat} {p met : List Int} (hp : Plate n p) (back : ∀ x ∈ p, step p x ∈ met → x ∈ met) {f : Int} (hf : f ∈ p) : (walk p met (p.length + 1) [] f).length < p.length + 1 := by
  by_cases hm : f ∈ met
  · unfold walk
    rw [if_pos (by simpa using hm)]
    simp
  · obtain ⟨h1, h2, _⟩ := walk_ok hp back (p.length + 1) [] f (by simp) .nil hf trivial (by simp) (.inr hm)
    have := List.Nodup.length_le_of_subset h2 (fun y m => (h1 y m).1)
    omega
/-- what holds while the rims are gone round -/
structure Good (p : List Int) (rs : List (List Int)) : Prop where
  cyc : ∀ r ∈ rs, Cyc (RR p) r
  nd : rs.flatten.Nodup
  sub : ∀ x ∈ rs.flatten, x ∈ p
theorem Good.back {n : Nat} {p : List Int} {rs : List (List Int)} (hp : Plate n p) (g : Good p rs) : ∀ x ∈ p, step p x ∈ rs.flatten → x ∈ rs.flatten := fun x hx m => by
  obtain ⟨r, mr, m⟩ := List.mem_flatten.mp m
  obtain ⟨y, my, hy⟩ := cyc_pred (g.cyc r mr) m
  have := hp.inj (g.sub y (List.mem_flatten.mpr ⟨r, mr, my⟩)) hx hy
  subst this
  exact List.mem_flatten.mpr ⟨r, mr, my⟩
theorem Good.next {n : Nat} {p : List Int} {rs : List (List Int)} (hp : Plate n p) (g : Good p rs) {f : Int} (hf : f ∈ p) : Good p (if walk p rs.flatten (p.length + 1) [] f = [] then rs else rs ++ [walk p rs.flatten (p.length + 1) [] f]) := by
  obtain ⟨a, b, c, _⟩ := rowsGo_ok hp [f] rs (by simpa using hf) g.cyc g.nd g.sub
  exact ⟨a, b, c⟩
theorem Good.len {p : List Int} {rs : List (List Int)} (g : Good p rs) : rs.length ≤ p.length ∧ rs.flatten.length ≤ p.length := by
  have h1 := rows_len g.cyc
  have h2 := List.Nodup.length_le_of_subset g.nd g.sub
  omega
end FG

set_option Elab.async false
set_option linter.all false
namespace FG
/-! ### the way to the told plate -/
structure Sl where
  p : List Int
  ws : List (List Int)
  bs : List (List Int)
def slideS (s : Sl) (i : Nat) (b : Bool) : Option Sl :=
  match s.p[i]?, s.p[(i + if b then 1 else s.p.length - 1) % s.p.length]? with
  | some e, some o => if o = -e then none else
    if ((s.ws.map fun w => low (flat (subw e o) w)).all fun w => decide (w.length ≤ 400)) && decide ((low (flat (sub s.bs) [-o, e])).length ≤ 400) then
      some ⟨slideA b e o s.p, s.ws.map fun w => low (flat (subw e o) w), setw s.bs e (low (flat (sub s.bs) [-o, e]))⟩
    else none
  | _, _ => none
def gatherS (a z : Int) : Nat → Sl → Option Sl
  | 0, _ => none
  | k + 1, s => match s.p[s.p.idxOf a + 1]? with
    | none => none
    | some y => if y = z then some s else (slideS s (s.p.idxOf a + 1) false).bind (gatherS a z k)
def linkIn (r : List Int) (one : Int) (late : Nat) : List Nat → Option (Option (Int × Int))
  | [] => some none
  | j :: js => match r[j]? with
    | none => none
    | some y => if -y ∈ r then (if late < r.idxOf (-y) then some (some (one, y)) else linkIn r one late js) else none
def linkOut (r : List Int) : List (Int × Nat) → Option (Option (Int × Int))
  | [] => some none
  | z :: zs => if -z.1 ∈ r then match linkIn r z.1 (r.idxOf (-z.1)) (List.range' (z.2 + 1) (r.idxOf (-z.1) - (z.2 + 1))) with
      | none => none
      | some (some w) => some (some w)
      | some none => linkOut r zs
    else none
def linkedS (s : Sl) (done : Nat) : Option (Option (Int × Int)) := linkOut (s.p.drop done) (s.p.drop done).zipIdx
def fourS (x : Int) : Nat → Sl → Option Sl
  | 0, s => some s
  | k + 1, s => if x ∈ s.p then (slideS s (s.p.idxOf x) true).bind (fourS x k) else none
def backS (a : Int) (done : Nat) : Nat → Sl → Option Sl
  | 0, _ => none
  | k + 1, s => if a ∈ s.p then (if done < s.p.idxOf a then match s.p[s.p.idxOf a - 1]? with
      | none => none
      | some x => (fourS x 4 s).bind (backS a done k)
    else some s) else none
def turnS (s : Sl) (a : Int) : Sl := ⟨s.p.drop (s.p.idxOf a) ++ s.p.take (s.p.idxOf a), s.ws, s.bs⟩
def handleS (F : Nat) (a z : Int) (done : Nat) (s : Sl) : Option Sl :=
  (gatherS a z F s).bind fun s => (gatherS z (-a) F s).bind fun s => (gatherS (-a) (-z) F s).bind fun s => if a ∈ s.p then backS a done F (if done = 0 then turnS s a else s) else none
def linkRun (F : Nat) : Nat → Nat → Option (Int × Int) → Sl → Option (Nat × Sl)
  | 0, _, _, _ => none
  | _ + 1, done, none, s => some (done, s)
  | k + 1, done, some z, s => (handleS F z.1 z.2 done s).bind fun s => (linkedS s (done + 4)).bind fun f => linkRun F k (done + 4) f s
def pairRun : Nat → Nat → Sl → Option Sl
  | 0, _, _ => none
  | k + 1, done, s => if done < s.p.length then match s.p[done]?, s.p[done + 1]? with
      | some x, some y => if y = -x then pairRun k (done + 2) s else (slideS s done true).bind (pairRun k done)
      | _, _ => none
    else some s
def runS (F : Nat) (s : Sl) : Option Sl := (linkedS s 0).bind fun f => (linkRun F F 0 f s).bind fun z => pairRun F z.1 z.2
/-- letters by the sequence in which they come first -/
def firstsGo : List Int → List Int → List Int
  | _, [] => []
  | seen, x :: r => if -x ∈ seen then firstsGo (seen ++ [x]) r else x :: firstsGo (seen ++ [x]) r
def firsts (p : List Int) : List Int := firstsGo [] p
def ren (fs : List Int) (x : Int) : Int := if x ∈ fs then (fs.idxOf x : Int) + 1 else -(fs.idxOf (-x) : Int) - 1
def hands : Nat → List Int
  | 0 => []
  | k + 1 => hands k ++ [2 * (k : Int) + 1, 2 * k + 2, -2 * k - 1, -2 * k - 2]
def pairsU (lo : Int) : Nat → List Int
  | 0 => []
  | k + 1 => pairsU lo k ++ [lo + k, -(lo + k)]
def typed (h m : Nat) : List Int := hands h ++ pairsU (2 * (h : Int) + 1) m
def shaped (n : Nat) (p : List Int) : Bool := (List.range (n / 2 + 1)).any fun h => decide (p.map (ren (firsts p)) = typed h (n - 2 * h))
def chk (n : Nat) (p : List Int) : Bool := match runS 60 ⟨p, ones n, ones n⟩ with
  | some s => shaped n s.p && s.ws.all fun w => decide (w.length ≤ 90)
  | none => false
end FG

set_option Elab.async false
set_option linter.all false
set_option maxHeartbeats 1000000
namespace FG
/-! ### letters renamed -/
structure Ren (σ : Int → Int) : Prop where
  odd : ∀ x, σ (-x) = -σ x
  inj : ∀ x y, σ x = σ y → x = y
section
variable {σ : Int → Int} (h : Ren σ)
include h
theorem Ren.mem {l : List Int} {x : Int} : σ x ∈ l.map σ ↔ x ∈ l := by
  rw [List.mem_map]
  exact ⟨fun ⟨y, m, e⟩ => by rw [← h.inj _ _ e]; exact m, fun m => ⟨x, m, rfl⟩⟩
theorem Ren.idx (l : List Int) (x : Int) : (l.map σ).idxOf (σ x) = l.idxOf x := by
  induction l with
  | nil => rfl
  | cons y l ih =>
    rw [List.map_cons, List.idxOf_cons, List.idxOf_cons, ih]
    by_cases e : y = x
    · subst e; simp
    · have : ¬ σ y = σ x := fun z => e (h.inj _ _ z)
      have e1 : (σ y == σ x) = false := by simpa using this
      have e2 : (y == x) = false := by simpa using e
      rw [e1, e2]
theorem Ren.st (s : List Int) (x : Int) : st (s.map σ) (σ x) = (st s x).map σ := by
  cases s with
  | nil => rfl
  | cons y r =>
    rw [List.map_cons]
    unfold FG.st
    dsimp only
    by_cases e : y = -x
    · rw [if_pos e, if_pos (by rw [e, h.odd])]
    · rw [if_neg e, if_neg fun z => e (h.inj _ _ (by rw [h.odd]; exact z))]
      rfl
theorem Ren.act (w : List Int) : ∀ s : List Int, act (s.map σ) (w.map σ) = (act s w).map σ := by
  induction w with
  | nil => intro s; rfl
  | cons x w ih =>
    intro s
    rw [List.map_cons, act_cons, act_cons, h.st, ih]
theorem Ren.low (w : List Int) : low (w.map σ) = (low w).map σ := by
  unfold FG.low
  have := h.act w []
  rw [List.map_nil] at this
  rw [this, List.map_reverse]
theorem Ren.und (w : List Int) : und (w.map σ) = (und w).map σ := by
  unfold FG.und
  rw [List.map_reverse, List.map_map, List.map_map]
  congr 1
  exact List.map_congr_left fun x _ => (h.odd x).symm
theorem Ren.subw (e o x : Int) : subw (σ e) (σ o) (σ x) = (subw e o x).map σ := by
  unfold FG.subw
  by_cases h1 : x = e
  · subst h1; simp
  · have n1 : ¬ σ x = σ e := fun z => h1 (h.inj _ _ z)
    rw [if_neg h1, if_neg n1]
    by_cases h2 : x = -e
    · subst h2
      rw [if_pos rfl, if_pos (h.odd e)]
      simp [h.odd]
    · have n2 : ¬ σ x = -σ e := fun z => h2 (h.inj _ _ (by rw [h.odd]; exact z))
      rw [if_neg h2, if_neg n2]
      rfl
theorem Ren.flat {f g : Int → List Int} {w : List Int} (hf : ∀ x ∈ w, g (σ x) = (f x).map σ) : flat g (w.map σ) = (flat f w).map σ := by
  induction w with
  | nil => rfl
  | cons x w ih =>
    rw [List.map_cons, flat_cons, flat_cons, List.map_append, hf x List.mem_cons_self, ih fun y m => hf y (List.mem_cons_of_mem _ m)]
theorem Ren.slideA (b : Bool) (e o : Int) (p : List Int) : slideA b (σ e) (σ o) (p.map σ) = (slideA b e o p).map σ := by
  have hfil : (p.map σ).filter (fun y => decide (y ≠ σ e)) = (p.filter fun y => decide (y ≠ e)).map σ := by
    rw [List.filter_map]
    congr 1
    apply List.filter_congr
    intro x _
    show decide (σ x ≠ σ e) = decide (x ≠ e)
    by_cases z : x = e
    · subst z; simp
    · have : ¬ σ x = σ e := fun q => z (h.inj _ _ q)
      simp [z, this]
  have key : ∀ (l : List Int) (f g : Int → List Int), (∀ y, g (σ y) = (f y).map σ) → (l.map σ).flatMap g = (l.flatMap f).map σ := fun l f g hk => by
    induction l with
    | nil => rfl
    | cons y l ih => rw [List.map_cons, List.flatMap_cons, List.flatMap_cons, List.map_append, hk, ih]
  have hk : ∀ y, (σ y = -σ o) ↔ (y = -o) := fun y => by
    exact ⟨fun z => h.inj _ _ (by rw [h.odd]; exact z), fun z => by rw [z, h.odd]⟩
  cases b with
  | true =>
    show slideL _ _ _ = _
    unfold slideL
    rw [hfil]
    refine key _ _ _ fun y => ?_
    by_cases z : y = -o
    · rw [if_pos z, if_pos ((hk y).mpr z)]; rfl
    · rw [if_neg z, if_neg fun q => z ((hk y).mp q)]; rfl
  | false =>
    show slideB _ _ _ = _
    unfold slideB
    rw [hfil]
    refine key _ _ _ fun y => ?_
    by_cases z : y = -o
    · rw [if_pos z, if_pos ((hk y).mpr z)]; rfl
    · rw [if_neg z, if_neg fun q => z ((hk y).mp q)]; rfl
end
/-- s is s0 with its letters renamed -/
structure Sim (n : Nat) (σ : Int → Int) (s0 s : Sl) : Prop where
  lt : ∀ x : Int, (x ≠ 0 ∧ -(n : Int) ≤ x ∧ x ≤ n) ↔ (σ x ≠ 0 ∧ -(n : Int) ≤ σ x ∧ σ x ≤ n)
  sur : ∀ y : Int, (y ≠ 0 ∧ -(n : Int) ≤ y ∧ y ≤ n) → ∃ x, σ x = y
  p : s.p = s0.p.map σ
  l0 : s0.ws.length = n ∧ s0.bs.length = n
  l1 : s.ws.length = n ∧ s.bs.length = n
  ws : ∀ x : Int, (x ≠ 0 ∧ -(n : Int) ≤ x ∧ x ≤ n) → sub s.ws (σ x) = (sub s0.ws x).map σ
  bs : ∀ x : Int, (x ≠ 0 ∧ -(n : Int) ≤ x ∧ x ≤ n) → sub s.bs (σ x) = (sub s0.bs x).map σ
/-- what stands in the plate are letters -/
def Pl (n : Nat) (s : Sl) : Prop := ∀ x ∈ s.p, x ≠ 0 ∧ -(n : Int) ≤ x ∧ x ≤ n
theorem slide_mem {b : Bool} {e o : Int} {p : List Int} (he : e ∈ p) {x : Int} (h : x ∈ slideA b e o p) : x ∈ p := by
  have key : ∀ (l : List Int) (f : Int → List Int), (∀ y ∈ l, ∀ z ∈ f y, z = y ∨ z = e) → (∀ y ∈ l, y ∈ p) → ∀ z ∈ l.flatMap f, z ∈ p := fun l f h1 h2 z m => by
    obtain ⟨y, my, mz⟩ := List.mem_flatMap.mp m
    rcases h1 y my z mz with rfl | rfl
    · exact h2 _ my
    · exact he
  cases b with
  | true =>
    refine key _ _ (fun y _ z mz => ?_) (fun y m => (List.mem_filter.mp m).1) x h
    split at mz <;> simp at mz <;> omega
  | false =>
    refine key _ _ (fun y _ z mz => ?_) (fun y m => (List.mem_filter.mp m).1) x h
    split at mz <;> simp at mz <;> omega
theorem sub_map_low {ws : List (List Int)} {f : Int → List Int} {S : Int → Prop} (hf : Odd f S) (hws : ∀ w ∈ ws, ∀ x ∈ w, S x) {l : Int} (hl : l ≠ 0 ∧ -(ws.length : Int) ≤ l ∧ l ≤ ws.length) : sub (ws.map fun w => low (flat f w)) l = low (flat f (sub ws l)) := by
  have key : ∀ i : Nat, i < ws.length → (ws.map fun w => low (flat f w)).getD i [] = low (flat f (ws.getD i [])) ∧ ∀ x ∈ ws.getD i [], S x := fun i hi => by
    rw [List.getD_eq_getElem?_getD, List.getD_eq_getElem?_getD, List.getElem?_map, List.getElem?_eq_getElem hi]
    exact ⟨rfl, hws _ (List.getElem_mem hi)⟩
  unfold sub
  by_cases h : l > 0
  · rw [if_pos h, if_pos h, (key _ (by omega)).1]
  · rw [if_neg h, if_neg h, (key _ (by omega)).1, flat_und hf (key _ (by omega)).2, low_und]
theorem sub_at {ws : List (List Int)} {j : Nat} (h : j < ws.length) : sub ws ((j : Int) + 1) = ws[j] := by
  unfold sub
  rw [if_pos (by omega), List.getD_eq_getElem?_getD]
  have : ((j : Int) + 1 - 1).toNat = j := by omega
  rw [this, List.getElem?_eq_getElem h]
  rfl
theorem sub_mem {ws : List (List Int)} {l : Int} (h : l ≠ 0 ∧ -(ws.length : Int) ≤ l ∧ l ≤ ws.length) : ∃ w ∈ ws, sub ws l = w ∨ sub ws l = und w := by
  unfold sub
  by_cases hp : l > 0
  · rw [if_pos hp]
    have hi : (l - 1).toNat < ws.length := by omega
    refine ⟨ws[(l - 1).toNat], List.getElem_mem hi, .inl ?_⟩
    rw [List.getD_eq_getElem?_getD, List.getElem?_eq_getElem hi]
    rfl
  · rw [if_neg hp]
    have hi : (-l - 1).toNat < ws.length := by omega
    refine ⟨ws[(-l - 1).toNat], List.getElem_mem hi, .inr ?_⟩
    rw [List.getD_eq_getElem?_getD, List.getElem?_eq_getElem hi]
    rfl
theorem sim_slide {n : Nat} {σ : Int → Int} (h : Ren σ) {s0 s s0' : Sl} (S : Sim n σ s0 s) (hp : Pl n s0) {i : Nat} {b : Bool} (e0 : slideS s0 i b = some s0') : ∃ s', slideS s i b = some s' ∧ Sim n σ s0' s' ∧ Pl n s0' := by
  unfold slideS at e0
  split at e0
  · rename_i e o he ho
    split at e0
    · cases e0
    · rename_i hne
      split at e0
      · rename_i hok
        cases e0
        have eL := hp e (List.mem_of_getElem? he)
        have oL := hp o (List.mem_of_getElem? ho)
        have he' : s.p[i]? = some (σ e) := by rw [S.p, List.getElem?_map, he]; rfl
        have ho' : s.p[(i + if b then 1 else s.p.length - 1) % s.p.length]? = some (σ o) := by
          rw [S.p, List.length_map, List.getElem?_map, ho]; rfl
        have hne' : ¬ σ o = -σ e := fun z => hne (h.inj _ _ (by rw [h.odd]; exact z))
        have nz : ∀ x : Int, (x ≠ 0 ∧ -(n : Int) ≤ x ∧ x ≤ n) → (-x ≠ 0 ∧ -(n : Int) ≤ -x ∧ -x ≤ n) := fun x hx => by omega
        have eL' := (S.lt e).mp eL
        have oL' := (S.lt o).mp oL
        -- the words
        have hws : ∀ x : Int, (x ≠ 0 ∧ -(n : Int) ≤ x ∧ x ≤ n) → sub (s.ws.map fun w => low (flat (subw (σ e) (σ o)) w)) (σ x) = (sub (s0.ws.map fun w => low (flat (subw e o) w)) x).map σ := fun x hx => by
          have hx' := (S.lt x).mp hx
          rw [sub_map_low (odd_subw eL'.1) (fun _ _ _ _ => trivial) (by rw [S.l1.1]; exact hx'), sub_map_low (odd_subw eL.1) (fun _ _ _ _ => trivial) (by rw [S.l0.1]; exact hx), S.ws x hx, h.flat (f := subw e o) fun y _ => h.subw e o y, h.low]
        have hbk : low (flat (sub s.bs) [-σ o, σ e]) = (low (flat (sub s0.bs) [-o, e])).map σ := by
          have : [-σ o, σ e] = [-o, e].map σ := by rw [List.map_cons, List.map_cons, h.odd]; rfl
          rw [this, h.flat (f := sub s0.bs) fun y my => ?_, h.low]
          refine S.bs y ?_
          rcases List.mem_cons.mp my with rfl | my
          · exact nz o oL
          · rw [List.mem_singleton.mp my]; exact eL
        have hbs : ∀ x : Int, (x ≠ 0 ∧ -(n : Int) ≤ x ∧ x ≤ n) → sub (setw s.bs (σ e) (low (flat (sub s.bs) [-σ o, σ e]))) (σ x) = (sub (setw s0.bs e (low (flat (sub s0.bs) [-o, e]))) x).map σ := fun x hx => by
          have hx' := (S.lt x).mp hx
          rw [sub_setw (by rw [S.l1.2]; exact eL') (by rw [S.l1.2]; exact hx'), sub_setw (by rw [S.l0.2]; exact eL) (by rw [S.l0.2]; exact hx), hbk]
          by_cases h1 : x = e
          · subst h1; rw [if_pos rfl, if_pos rfl]
          · rw [if_neg h1, if_neg fun z => h1 (h.inj _ _ z)]
            by_cases h2 : x = -e
            · subst h2
              rw [if_pos rfl, if_pos (h.odd e), h.und]
            · rw [if_neg h2, if_neg fun z => h2 (h.inj _ _ (by rw [h.odd]; exact z)), S.bs x hx]
        rw [Bool.and_eq_true, decide_eq_true_eq] at hok
        have hok' : ((s.ws.map fun w => low (flat (subw (σ e) (σ o)) w)).all fun w => decide (w.length ≤ 400)) = true := by
          rw [List.all_eq_true]
          intro w mw
          obtain ⟨j, hj, rfl⟩ := List.mem_iff_getElem.mp mw
          have hjn : j < n := by rw [List.length_map, S.l1.1] at hj; exact hj
          obtain ⟨x, hx⟩ := S.sur ((j : Int) + 1) (by omega)
          have hx1 : x ≠ 0 ∧ -(n : Int) ≤ x ∧ x ≤ n := (S.lt x).mpr (by rw [hx]; omega)
          have := hws x hx1
          rw [hx, sub_at hj] at this
          rw [this, List.length_map]
          obtain ⟨v, mv, hv⟩ := sub_mem (ws := s0.ws.map fun w => low (flat (subw e o) w)) (l := x) (by rw [List.length_map, S.l0.1]; exact hx1)
          have hvl := List.all_eq_true.mp hok.1 v mv
          rcases hv with hv | hv
          · rw [hv]; exact hvl
          · rw [hv, und_length]; exact hvl
        refine ⟨_, by
          unfold slideS
          rw [he', ho']
          dsimp only
          rw [if_neg hne', if_pos (by rw [hok', hbk, List.length_map]; simpa using hok.2)], ⟨S.lt, S.sur, ?_, ?_, ?_, hws, hbs⟩, fun x m => hp x (slide_mem (List.mem_of_getElem? he) m)⟩
        · show slideA b (σ e) (σ o) s.p = _
          rw [S.p, h.slideA]
        · exact ⟨by rw [List.length_map]; exact S.l0.1, by rw [setw_length]; exact S.l0.2⟩
        · exact ⟨by rw [List.length_map]; exact S.l1.1, by rw [setw_length]; exact S.l1.2⟩
      · cases e0
  · cases e0
end FG

set_option Elab.async false
set_option linter.all false
set_option maxHeartbeats 1000000
namespace FG
def mz (σ : Int → Int) (z : Int × Int) : Int × Int := (σ z.1, σ z.2)
section
variable {n : Nat} {σ : Int → Int} (h : Ren σ)
include h
theorem sim_gather {a z : Int} : ∀ (k : Nat) {s0 s s0' : Sl}, Sim n σ s0 s → Pl n s0 → gatherS a z k s0 = some s0' → ∃ s', gatherS (σ a) (σ z) k s = some s' ∧ Sim n σ s0' s' ∧ Pl n s0'
  | 0, s0, s, s0', S, hp, e => by cases e
  | k + 1, s0, s, s0', S, hp, e => by
    unfold gatherS at e ⊢
    rw [S.p, h.idx, List.getElem?_map]
    cases hy : s0.p[s0.p.idxOf a + 1]? with
    | none => rw [hy] at e; cases e
    | some y =>
      rw [hy] at e
      dsimp only [Option.map_some] at e ⊢
      by_cases hz : y = z
      · rw [if_pos hz] at e
        cases e
        rw [if_pos (by rw [hz])]
        exact ⟨s, rfl, S, hp⟩
      · rw [if_neg hz] at e
        rw [if_neg fun q => hz (h.inj _ _ q)]
        obtain ⟨s1, e1, e2⟩ := Option.bind_eq_some_iff.mp e
        obtain ⟨s1', f1, S1, p1⟩ := sim_slide h S hp e1
        obtain ⟨s', f2, S2, p2⟩ := sim_gather k S1 p1 e2
        exact ⟨s', by rw [f1]; exact f2, S2, p2⟩
theorem sim_linkIn {r : List Int} {one : Int} {late : Nat} : ∀ (js : List Nat), linkIn (r.map σ) (σ one) late js = (linkIn r one late js).map (Option.map (mz σ))
  | [] => rfl
  | j :: js => by
    unfold linkIn
    rw [List.getElem?_map]
    cases hj : r[j]? with
    | none => rfl
    | some y =>
      dsimp only [Option.map_some]
      rw [← h.odd, h.idx]
      by_cases hm : -y ∈ r
      · rw [if_pos hm, if_pos (h.mem.mpr hm)]
        by_cases hl : late < r.idxOf (-y)
        · rw [if_pos hl, if_pos hl]; rfl
        · rw [if_neg hl, if_neg hl, sim_linkIn js]
      · rw [if_neg hm, if_neg fun q => hm (h.mem.mp q)]; rfl
theorem sim_linkOut {r : List Int} : ∀ (zs : List (Int × Nat)), linkOut (r.map σ) (zs.map fun z => (σ z.1, z.2)) = (linkOut r zs).map (Option.map (mz σ))
  | [] => rfl
  | z :: zs => by
    rw [List.map_cons]
    unfold linkOut
    dsimp only
    rw [← h.odd, h.idx, sim_linkIn h]
    by_cases hm : -z.1 ∈ r
    · rw [if_pos hm, if_pos (h.mem.mpr hm)]
      cases hl : linkIn r z.1 (r.idxOf (-z.1)) (List.range' (z.2 + 1) (r.idxOf (-z.1) - (z.2 + 1))) with
      | none => rfl
      | some w =>
        cases w with
        | none => exact sim_linkOut zs
        | some w => rfl
    · rw [if_neg hm, if_neg fun q => hm (h.mem.mp q)]; rfl
theorem sim_linked {s0 s : Sl} (S : Sim n σ s0 s) (done : Nat) : linkedS s done = (linkedS s0 done).map (Option.map (mz σ)) := by
  unfold linkedS
  rw [S.p, ← List.map_drop, List.zipIdx_map]
  exact sim_linkOut h _
theorem sim_four {x : Int} : ∀ (k : Nat) {s0 s s0' : Sl}, Sim n σ s0 s → Pl n s0 → fourS x k s0 = some s0' → ∃ s', fourS (σ x) k s = some s' ∧ Sim n σ s0' s' ∧ Pl n s0'
  | 0, s0, s, s0', S, hp, e => by
    cases e
    exact ⟨s, rfl, S, hp⟩
  | k + 1, s0, s, s0', S, hp, e => by
    unfold fourS at e ⊢
    rw [S.p, h.idx]
    by_cases hm : x ∈ s0.p
    · rw [if_pos hm] at e
      rw [if_pos (h.mem.mpr hm)]
      obtain ⟨s1, e1, e2⟩ := Option.bind_eq_some_iff.mp e
      obtain ⟨s1', f1, S1, p1⟩ := sim_slide h S hp e1
      obtain ⟨s', f2, S2, p2⟩ := sim_four k S1 p1 e2
      exact ⟨s', by rw [f1]; exact f2, S2, p2⟩
    · rw [if_neg hm] at e
      cases e
theorem sim_back {a : Int} {done : Nat} : ∀ (k : Nat) {s0 s s0' : Sl}, Sim n σ s0 s → Pl n s0 → backS a done k s0 = some s0' → ∃ s', backS (σ a) done k s = some s' ∧ Sim n σ s0' s' ∧ Pl n s0'
  | 0, s0, s, s0', S, hp, e => by cases e
  | k + 1, s0, s, s0', S, hp, e => by
    unfold backS at e ⊢
    rw [S.p, h.idx, List.getElem?_map]
    by_cases hm : a ∈ s0.p
    · rw [if_pos hm] at e
      rw [if_pos (h.mem.mpr hm)]
      by_cases hd : done < s0.p.idxOf a
      · rw [if_pos hd] at e ⊢
        cases hy : s0.p[s0.p.idxOf a - 1]? with
        | none => rw [hy] at e; cases e
        | some y =>
          rw [hy] at e
          dsimp only [Option.map_some] at e ⊢
          obtain ⟨s1, e1, e2⟩ := Option.bind_eq_some_iff.mp e
          obtain ⟨s1', f1, S1, p1⟩ := sim_four h 4 S hp e1
          obtain ⟨s', f2, S2, p2⟩ := sim_back k S1 p1 e2
          exact ⟨s', by rw [f1]; exact f2, S2, p2⟩
      · rw [if_neg hd] at e ⊢
        cases e
        exact ⟨s, rfl, S, hp⟩
    · rw [if_neg hm] at e
      cases e
theorem sim_turn {a : Int} {s0 s : Sl} (S : Sim n σ s0 s) (hp : Pl n s0) : Sim n σ (turnS s0 a) (turnS s (σ a)) ∧ Pl n (turnS s0 a) := by
  refine ⟨⟨S.lt, S.sur, ?_, S.l0, S.l1, S.ws, S.bs⟩, fun x m => hp x ?_⟩
  · show s.p.drop _ ++ s.p.take _ = (s0.p.drop _ ++ s0.p.take _).map σ
    rw [S.p, h.idx, List.map_append, List.map_drop, List.map_take]
  · rcases List.mem_append.mp m with m | m
    · exact List.mem_of_mem_drop m
    · exact List.mem_of_mem_take m
theorem sim_handle {F : Nat} {a z : Int} {done : Nat} {s0 s s0' : Sl} (S : Sim n σ s0 s) (hp : Pl n s0) (e : handleS F a z done s0 = some s0') : ∃ s', handleS F (σ a) (σ z) done s = some s' ∧ Sim n σ s0' s' ∧ Pl n s0' := by
  unfold handleS at e ⊢
  obtain ⟨s1, e1, e⟩ := Option.bind_eq_some_iff.mp e
  obtain ⟨s2, e2, e⟩ := Option.bind_eq_some_iff.mp e
  obtain ⟨s3, e3, e⟩ := Option.bind_eq_some_iff.mp e
  obtain ⟨t1, f1, S1, p1⟩ := sim_gather h F S hp e1
  obtain ⟨t2, f2, S2, p2⟩ := sim_gather h F S1 p1 e2
  obtain ⟨t3, f3, S3, p3⟩ := sim_gather h F S2 p2 e3
  rw [h.odd] at f2 f3
  rw [h.odd] at f3
  rw [f1, Option.bind_some, f2, Option.bind_some, f3, Option.bind_some]
  by_cases hm : a ∈ s3.p
  · rw [if_pos hm] at e
    rw [if_pos (by rw [S3.p]; exact h.mem.mpr hm)]
    by_cases hd : done = 0
    · rw [if_pos hd] at e ⊢
      obtain ⟨S4, p4⟩ := sim_turn h (a := a) S3 p3
      exact sim_back h F S4 p4 e
    · rw [if_neg hd] at e ⊢
      exact sim_back h F S3 p3 e
  · rw [if_neg hm] at e
    cases e
theorem sim_linkRun {F : Nat} : ∀ (k done : Nat) (f : Option (Int × Int)) {s0 s : Sl} {z : Nat × Sl}, Sim n σ s0 s → Pl n s0 → linkRun F k done f s0 = some z → ∃ s', linkRun F k done (f.map (mz σ)) s = some (z.1, s') ∧ Sim n σ z.2 s' ∧ Pl n z.2
  | 0, done, f, s0, s, z, S, hp, e => by cases e
  | k + 1, done, none, s0, s, z, S, hp, e => by
    unfold linkRun at e
    cases e
    exact ⟨s, rfl, S, hp⟩
  | k + 1, done, some w, s0, s, z, S, hp, e => by
    unfold linkRun at e
    obtain ⟨s1, e1, e⟩ := Option.bind_eq_some_iff.mp e
    obtain ⟨f, e2, e⟩ := Option.bind_eq_some_iff.mp e
    obtain ⟨t1, f1, S1, p1⟩ := sim_handle h S hp e1
    obtain ⟨t, g, S2, p2⟩ := sim_linkRun k (done + 4) f S1 p1 e
    refine ⟨t, ?_, S2, p2⟩
    show linkRun F (k + 1) done (some (mz σ w)) s = _
    unfold linkRun
    show (handleS F (σ w.1) (σ w.2) done s).bind _ = _
    rw [f1, Option.bind_some, sim_linked h S1, e2]
    exact g
theorem sim_pairRun : ∀ (k done : Nat) {s0 s s0' : Sl}, Sim n σ s0 s → Pl n s0 → pairRun k done s0 = some s0' → ∃ s', pairRun k done s = some s' ∧ Sim n σ s0' s' ∧ Pl n s0'
  | 0, done, s0, s, s0', S, hp, e => by cases e
  | k + 1, done, s0, s, s0', S, hp, e => by
    unfold pairRun at e ⊢
    rw [S.p, List.length_map, List.getElem?_map, List.getElem?_map]
    by_cases hd : done < s0.p.length
    · rw [if_pos hd] at e ⊢
      cases hx : s0.p[done]? with
      | none => rw [hx] at e; cases e
      | some x =>
        cases hy : s0.p[done + 1]? with
        | none => rw [hx, hy] at e; cases e
        | some y =>
          rw [hx, hy] at e
          dsimp only [Option.map_some] at e ⊢
          by_cases hz : y = -x
          · rw [if_pos hz] at e
            rw [if_pos (by rw [hz, h.odd])]
            exact sim_pairRun k (done + 2) S hp e
          · rw [if_neg hz] at e
            rw [if_neg fun q => hz (h.inj _ _ (by rw [h.odd]; exact q))]
            obtain ⟨s1, e1, e2⟩ := Option.bind_eq_some_iff.mp e
            obtain ⟨s1', f1, S1, p1⟩ := sim_slide h S hp e1
            obtain ⟨s', f2, S2, p2⟩ := sim_pairRun k done S1 p1 e2
            exact ⟨s', by rw [f1]; exact f2, S2, p2⟩
    · rw [if_neg hd] at e ⊢
      cases e
      exact ⟨s, rfl, S, hp⟩
theorem sim_run {F : Nat} {s0 s s0' : Sl} (S : Sim n σ s0 s) (hp : Pl n s0) (e : runS F s0 = some s0') : ∃ s', runS F s = some s' ∧ Sim n σ s0' s' := by
  unfold runS at e ⊢
  obtain ⟨f, e1, e⟩ := Option.bind_eq_some_iff.mp e
  obtain ⟨z, e2, e⟩ := Option.bind_eq_some_iff.mp e
  obtain ⟨t, f2, S2, p2⟩ := sim_linkRun h F 0 f S hp e2
  obtain ⟨t', f3, S3, _⟩ := sim_pairRun h F z.1 S2 p2 e
  refine ⟨t', ?_, S3⟩
  rw [sim_linked h S, e1]
  show (linkRun F F 0 (f.map (mz σ)) s).bind _ = _
  rw [f2]
  exact f3
theorem ren_firstsGo : ∀ (p seen : List Int), firstsGo (seen.map σ) (p.map σ) = (firstsGo seen p).map σ
  | [], _ => rfl
  | x :: p, seen => by
    rw [List.map_cons]
    unfold firstsGo
    rw [← h.odd]
    have e1 : seen.map σ ++ [σ x] = (seen ++ [x]).map σ := by simp
    by_cases hm : -x ∈ seen
    · rw [if_pos hm, if_pos (h.mem.mpr hm), e1, ren_firstsGo p]
    · rw [if_neg hm, if_neg fun q => hm (h.mem.mp q), e1, ren_firstsGo p]
      rfl
theorem ren_ren (fs : List Int) (x : Int) : ren (fs.map σ) (σ x) = ren fs x := by
  unfold ren
  rw [← h.odd, h.idx, h.idx]
  by_cases hm : x ∈ fs
  · rw [if_pos hm, if_pos (h.mem.mpr hm)]
  · rw [if_neg hm, if_neg fun q => hm (h.mem.mp q)]
theorem ren_shaped {m : Nat} (p : List Int) : shaped m (p.map σ) = shaped m p := by
  unfold shaped
  have : (p.map σ).map (ren (firsts (p.map σ))) = p.map (ren (firsts p)) := by
    have e1 : firsts (p.map σ) = (firsts p).map σ := by
      have := ren_firstsGo h p []
      rw [List.map_nil] at this
      exact this
    rw [e1, List.map_map]
    exact List.map_congr_left fun x _ => ren_ren h (firsts p) x
  rw [this]
end
end FG

set_option Elab.async false
set_option linter.all false
set_option maxHeartbeats 1000000
namespace FG
/-! ### plates told by firsts -/
def chkAll (n : Nat) : Nat → Nat → List Int → Bool
  | 0, _, pre => chk n pre
  | k + 1, u, pre => (decide (n ≤ u) || chkAll n k (u + 1) (pre ++ [(u : Int) + 1])) && (List.range u).all fun (j : Nat) => decide (-((j : Int) + 1) ∈ pre) || chkAll n k u (pre ++ [-((j : Int) + 1)])
def CanS (n : Nat) : Nat → List Int → List Int → Prop
  | _, _, [] => True
  | u, pre, x :: r => (x = (u : Int) + 1 ∧ u < n ∧ CanS n (u + 1) (pre ++ [x]) r) ∨ ∃ j : Nat, j < u ∧ x = -((j : Int) + 1) ∧ x ∉ pre ∧ CanS n u (pre ++ [x]) r
theorem chkAll_can {n : Nat} : ∀ (suf : List Int) (u : Nat) (pre : List Int), chkAll n suf.length u pre = true → CanS n u pre suf → chk n (pre ++ suf) = true
  | [], u, pre, h, _ => by rw [List.append_nil]; exact h
  | x :: r, u, pre, h, c => by
    rw [List.length_cons] at h
    unfold chkAll at h
    rw [Bool.and_eq_true, Bool.or_eq_true, decide_eq_true_eq, List.all_eq_true] at h
    have e : pre ++ x :: r = (pre ++ [x]) ++ r := by simp
    rw [e]
    rcases c with ⟨hx, hu, c⟩ | ⟨j, hj, hx, hm, c⟩
    · subst hx
      exact chkAll_can r (u + 1) _ (h.1.resolve_left (by omega)) c
    · have := h.2 j (List.mem_range.mpr hj)
      rw [Bool.or_eq_true, decide_eq_true_eq] at this
      subst hx
      exact chkAll_can r u _ (this.resolve_left hm) c
theorem firstsGo_app : ∀ (a b seen : List Int), firstsGo seen (a ++ b) = firstsGo seen a ++ firstsGo (seen ++ a) b
  | [], b, seen => by simp [firstsGo]
  | x :: a, b, seen => by
    rw [List.cons_append]
    have u : ∀ q : List Int, firstsGo seen (x :: q) = if -x ∈ seen then firstsGo (seen ++ [x]) q else x :: firstsGo (seen ++ [x]) q := fun q => by rw [firstsGo]
    rw [u, u, firstsGo_app a b (seen ++ [x]), List.append_assoc]
    by_cases hm : -x ∈ seen
    · rw [if_pos hm, if_pos hm]; rfl
    · rw [if_neg hm, if_neg hm]; rfl
theorem mem_firstsGo : ∀ {r seen : List Int} {x : Int}, x ∈ firstsGo seen r → x ∈ r ∧ -x ∉ seen
  | [], _, _, h => by simp [firstsGo] at h
  | y :: r, seen, x, h => by
    unfold firstsGo at h
    split at h
    · obtain ⟨h1, h2⟩ := mem_firstsGo h
      exact ⟨List.mem_cons_of_mem _ h1, fun m => h2 (List.mem_append_left _ m)⟩
    · rename_i hn
      rcases List.mem_cons.mp h with rfl | h
      · exact ⟨List.mem_cons_self, hn⟩
      · obtain ⟨h1, h2⟩ := mem_firstsGo h
        exact ⟨List.mem_cons_of_mem _ h1, fun m => h2 (List.mem_append_left _ m)⟩
theorem firstsGo_nodup : ∀ {r seen : List Int}, r.Nodup → (firstsGo seen r).Nodup
  | [], _, _ => .nil
  | y :: r, seen, h => by
    have hr := (List.nodup_cons.mp h).2
    unfold firstsGo
    split
    · exact firstsGo_nodup hr
    · exact List.nodup_cons.mpr ⟨fun m => (List.nodup_cons.mp h).1 (mem_firstsGo m).1, firstsGo_nodup hr⟩
/-- not both of a letter's ends are first -/
theorem firstsGo_one : ∀ {r seen : List Int} {x : Int}, x ≠ 0 → x ∈ firstsGo seen r → -x ∉ firstsGo seen r
  | [], _, _, _, h => by simp [firstsGo] at h
  | y :: r, seen, x, hx, h => by
    unfold firstsGo at h ⊢
    split at h
    · rename_i hy
      rw [if_pos hy]
      exact firstsGo_one hx h
    · rename_i hy
      rw [if_neg hy]
      intro m
      rcases List.mem_cons.mp h with rfl | h
      · rcases List.mem_cons.mp m with e | m
        · omega
        · exact (mem_firstsGo m).2 (by simp)
      · rcases List.mem_cons.mp m with e | m
        · exact (mem_firstsGo h).2 (by simp [e])
        · exact firstsGo_one hx h m
theorem firstsGo_all : ∀ {r seen : List Int} {x : Int}, x ∈ r → x ∈ firstsGo seen r ∨ -x ∈ firstsGo seen r ∨ -x ∈ seen ∨ x ∈ seen
  | [], _, _, h => by cases h
  | y :: r, seen, x, h => by
    unfold firstsGo
    rcases List.mem_cons.mp h with e | h
    · subst e
      by_cases hy : -x ∈ seen
      · exact .inr (.inr (.inl hy))
      · rw [if_neg hy]; exact .inl (by simp)
    · have ih := firstsGo_all (r := r) (seen := seen ++ [y]) h
      by_cases hy : -y ∈ seen
      · rw [if_pos hy]
        rcases ih with z | z | z | z
        · exact .inl z
        · exact .inr (.inl z)
        · rcases List.mem_append.mp z with z | z
          · exact .inr (.inr (.inl z))
          · have e : -x = y := by simpa using z
            rw [← e, Int.neg_neg] at hy
            exact .inr (.inr (.inr hy))
        · rcases List.mem_append.mp z with z | z
          · exact .inr (.inr (.inr z))
          · have e : x = y := by simpa using z
            rw [← e] at hy
            exact .inr (.inr (.inl hy))
      · rw [if_neg hy]
        rcases ih with z | z | z | z
        · exact .inl (List.mem_cons_of_mem _ z)
        · exact .inr (.inl (List.mem_cons_of_mem _ z))
        · rcases List.mem_append.mp z with z | z
          · exact .inr (.inr (.inl z))
          · have e : -x = y := by simpa using z
            exact .inr (.inl (by rw [e]; simp))
        · rcases List.mem_append.mp z with z | z
          · exact .inr (.inr (.inr z))
          · have e : x = y := by simpa using z
            exact .inl (by rw [e]; simp)
theorem firsts_all {p : List Int} {x : Int} (h : x ∈ p) : x ∈ firsts p ∨ -x ∈ firsts p := by
  rcases firstsGo_all (seen := []) h with z | z | z | z
  · exact .inl z
  · exact .inr z
  · cases z
  · cases z
theorem firsts_len {n : Nat} {p : List Int} (hp : Plate n p) : (firsts p).length = n := by
  have nd : (firsts p).Nodup := firstsGo_nodup hp.nd
  have sub1 : ∀ x ∈ firsts p, x ∈ p := fun x m => (mem_firstsGo m).1
  have hl := hp.length
  have one : ∀ x ∈ firsts p, -x ∉ firsts p := fun x m => firstsGo_one (hp.nz x (sub1 x m)) m
  have h1 : p.length ≤ (firsts p ++ und (firsts p)).length := by
    refine List.Nodup.length_le_of_subset hp.nd fun x m => ?_
    rcases firsts_all m with z | z
    · exact List.mem_append_left _ z
    · exact List.mem_append_right _ (mem_und.mpr z)
  have nd2 : (firsts p ++ und (firsts p)).Nodup := by
    refine List.nodup_append.mpr ⟨nd, ?_, fun a ma b mb e => ?_⟩
    · unfold und
      exact (List.reverse_perm _).symm.nodup (List.Pairwise.map _ (fun u v q z => q (by omega)) nd)
    · subst e
      exact one a ma (mem_und.mp mb)
  have h2 : (firsts p ++ und (firsts p)).length ≤ p.length := by
    refine List.Nodup.length_le_of_subset nd2 fun x m => ?_
    rcases List.mem_append.mp m with m | m
    · exact sub1 x m
    · have := hp.neg (sub1 _ (mem_und.mp m))
      rwa [Int.neg_neg] at this
  rw [List.length_append, und_length] at h1 h2
  omega
def back (fs : List Int) (y : Int) : Int := if 0 < y ∧ y ≤ fs.length then fs.getD (y - 1).toNat 0 else if y < 0 ∧ -y ≤ fs.length then -fs.getD (-y - 1).toNat 0 else y
theorem back_ren {n : Nat} {p : List Int} (hp : Plate n p) {x : Int} (h : x ∈ p) : back (firsts p) (ren (firsts p) x) = x := by
  have key : ∀ y, y ∈ firsts p → (firsts p).getD ((firsts p).idxOf y) 0 = y := fun y m => by
    have := List.idxOf_lt_length_of_mem m
    rw [List.getD_eq_getElem?_getD, List.getElem?_eq_getElem this]
    exact List.getElem_idxOf this
  unfold ren back
  by_cases hm : x ∈ firsts p
  · have := List.idxOf_lt_length_of_mem hm
    rw [if_pos hm, if_pos (by omega)]
    have e : (((firsts p).idxOf x : Int) + 1 - 1).toNat = (firsts p).idxOf x := by omega
    rw [e, key x hm]
  · have hm2 := (firsts_all h).resolve_left hm
    have := List.idxOf_lt_length_of_mem hm2
    rw [if_neg hm, if_neg (by omega), if_pos (by omega)]
    have e : (-(-((firsts p).idxOf (-x) : Int) - 1) - 1).toNat = (firsts p).idxOf (-x) := by omega
    rw [e, key _ hm2]
    omega
theorem back_fs {n : Nat} {p : List Int} (hp : Plate n p) {i : Nat} (hi : i < n) : (firsts p).getD i 0 ∈ firsts p := by
  have hl := firsts_len hp
  rw [List.getD_eq_getElem?_getD, List.getElem?_eq_getElem (by omega)]
  exact List.getElem_mem _
theorem back_cases {n : Nat} {p : List Int} (hp : Plate n p) (y : Int) : (0 < y ∧ y ≤ n ∧ back (firsts p) y = (firsts p).getD (y - 1).toNat 0) ∨ (y < 0 ∧ -y ≤ n ∧ back (firsts p) y = -(firsts p).getD (-y - 1).toNat 0) ∨ (¬ (y ≠ 0 ∧ -(n : Int) ≤ y ∧ y ≤ n) ∧ back (firsts p) y = y) := by
  have hl := firsts_len hp
  unfold back
  rw [hl]
  by_cases h1 : 0 < y ∧ y ≤ n
  · rw [if_pos h1]; exact .inl ⟨h1.1, h1.2, rfl⟩
  · rw [if_neg h1]
    by_cases h2 : y < 0 ∧ -y ≤ n
    · rw [if_pos h2]; exact .inr (.inl ⟨h2.1, h2.2, rfl⟩)
    · rw [if_neg h2]; exact .inr (.inr ⟨by omega, rfl⟩)
theorem back_lt {n : Nat} {p : List Int} (hp : Plate n p) (y : Int) : (y ≠ 0 ∧ -(n : Int) ≤ y ∧ y ≤ n) ↔ (back (firsts p) y ≠ 0 ∧ -(n : Int) ≤ back (firsts p) y ∧ back (firsts p) y ≤ n) := by
  have fl : ∀ i, i < n → ((firsts p).getD i 0 ≠ 0 ∧ -(n : Int) ≤ (firsts p).getD i 0 ∧ (firsts p).getD i 0 ≤ n) := fun i hi => (hp.mem _).mp (mem_firstsGo (back_fs hp hi)).1
  rcases back_cases hp y with ⟨h1, h2, h3⟩ | ⟨h1, h2, h3⟩ | ⟨h1, h3⟩
  · rw [h3]
    have := fl (y - 1).toNat (by omega)
    omega
  · rw [h3]
    have := fl (-y - 1).toNat (by omega)
    omega
  · rw [h3]
theorem back_ok {n : Nat} {p : List Int} (hp : Plate n p) : Ren (back (firsts p)) := by
  have hl := firsts_len hp
  have nd : (firsts p).Nodup := firstsGo_nodup hp.nd
  have inj : ∀ i j, i < n → j < n → (firsts p).getD i 0 = (firsts p).getD j 0 → i = j := fun i j hi hj e => (List.getD_inj (by omega) (by omega) nd).mp e
  have opp : ∀ i j, i < n → j < n → (firsts p).getD i 0 ≠ -(firsts p).getD j 0 := fun i j hi hj e => by
    have m := back_fs hp hj
    have m2 := back_fs hp hi
    rw [e] at m2
    exact firstsGo_one (hp.nz _ (mem_firstsGo m).1) m m2
  refine ⟨fun x => ?_, fun x y e => ?_⟩
  · rcases back_cases hp x with ⟨h1, h2, h3⟩ | ⟨h1, h2, h3⟩ | ⟨h1, h3⟩
    · rcases back_cases hp (-x) with ⟨k1, k2, k3⟩ | ⟨k1, k2, k3⟩ | ⟨k1, k3⟩
      · omega
      · rw [h3, k3, Int.neg_neg]
      · omega
    · rcases back_cases hp (-x) with ⟨k1, k2, k3⟩ | ⟨k1, k2, k3⟩ | ⟨k1, k3⟩
      · rw [h3, k3, Int.neg_neg]
      · omega
      · omega
    · rcases back_cases hp (-x) with ⟨k1, k2, k3⟩ | ⟨k1, k2, k3⟩ | ⟨k1, k3⟩
      · omega
      · omega
      · rw [h3, k3]
  · rcases back_cases hp x with ⟨h1, h2, h3⟩ | ⟨h1, h2, h3⟩ | ⟨h1, h3⟩
    · rcases back_cases hp y with ⟨k1, k2, k3⟩ | ⟨k1, k2, k3⟩ | ⟨k1, k3⟩
      · rw [h3, k3] at e
        have := inj _ _ (by omega) (by omega) e
        omega
      · rw [h3, k3] at e
        exact absurd e (opp _ _ (by omega) (by omega))
      · have := (back_lt hp x).mp (by omega)
        rw [e, k3] at this
        exact absurd this k1
    · rcases back_cases hp y with ⟨k1, k2, k3⟩ | ⟨k1, k2, k3⟩ | ⟨k1, k3⟩
      · rw [h3, k3] at e
        exact absurd e.symm (opp _ _ (by omega) (by omega))
      · rw [h3, k3] at e
        have := inj _ _ (by omega) (by omega) (Int.neg_inj.mp e)
        omega
      · have := (back_lt hp x).mp (by omega)
        rw [e, k3] at this
        exact absurd this k1
    · rcases back_cases hp y with ⟨k1, k2, k3⟩ | ⟨k1, k2, k3⟩ | ⟨k1, k3⟩
      · have := (back_lt hp y).mp (by omega)
        rw [← e, h3] at this
        exact absurd this h1
      · have := (back_lt hp y).mp (by omega)
        rw [← e, h3] at this
        exact absurd this h1
      · rw [h3, k3] at e
        exact e
/-- a plate told by firsts -/
theorem can_of {n : Nat} {p : List Int} (hp : Plate n p) : ∀ (b a : List Int), p = a ++ b → CanS n (firstsGo [] a).length (a.map (ren (firsts p))) (b.map (ren (firsts p)))
  | [], _, _ => trivial
  | x :: r, a, e => by
    have ih := can_of hp r (a ++ [x]) (by rw [e]; simp)
    have hx : x ∈ p := by rw [e]; simp
    have nd := hp.nd
    rw [e] at nd
    have xa : x ∉ a := fun m => (List.nodup_append.mp nd).2.2 _ m x (by simp) rfl
    have ef : firsts p = firstsGo [] a ++ firstsGo a (x :: r) := by
      unfold firsts
      rw [e, firstsGo_app]
      rfl
    have hl := firsts_len hp
    have ef1 : firstsGo [] (a ++ [x]) = firstsGo [] a ++ firstsGo a [x] := by
      rw [firstsGo_app]
      rfl
    have xf : x ∉ firstsGo [] a := fun m => xa (mem_firstsGo m).1
    rw [List.map_append] at ih
    by_cases hm : -x ∈ a
    · refine .inr ?_
      have e0 : firstsGo a [x] = [] := by simp [firstsGo, hm]
      rw [ef1, e0, List.append_nil] at ih
      have xnf : x ∉ firsts p := fun m => by
        rw [ef] at m
        rcases List.mem_append.mp m with m | m
        · exact xf m
        · exact (mem_firstsGo m).2 hm
      have mf : -x ∈ firstsGo [] a := by
        rcases firstsGo_all (seen := []) hm with z | z | z | z
        · exact z
        · rw [Int.neg_neg] at z; exact absurd z xf
        · cases z
        · cases z
      have ix := List.idxOf_lt_length_of_mem mf
      have ei : (firsts p).idxOf (-x) = (firstsGo [] a).idxOf (-x) := by
        rw [ef, List.idxOf_append, if_pos mf]
      refine ⟨(firstsGo [] a).idxOf (-x), ix, ?_, fun m => ?_, ih⟩
      · unfold ren
        rw [if_neg xnf, ei]
        omega
      · obtain ⟨y, my, ey⟩ := List.mem_map.mp m
        have yp : y ∈ p := by rw [e]; exact List.mem_append_left _ my
        have := back_ren hp yp
        rw [ey, back_ren hp hx] at this
        exact xa (by rw [this]; exact my)
    · refine .inl ?_
      have e0 : firstsGo a [x] = [x] := by simp [firstsGo, hm]
      rw [ef1, e0, List.length_append, List.length_singleton] at ih
      have ef2 : firstsGo a (x :: r) = x :: firstsGo (a ++ [x]) r := by rw [firstsGo, if_neg hm]
      have ei : (firsts p).idxOf x = (firstsGo [] a).length := by
        rw [ef, ef2]
        exact idx_mid xf
      have xm : x ∈ firsts p := by rw [ef, ef2]; simp
      refine ⟨?_, ?_, ih⟩
      · unfold ren
        rw [if_pos xm, ei]
      · rw [ef, ef2, List.length_append, List.length_cons] at hl
        omega
theorem told_run {n : Nat} {p : List Int} (hp : Plate n p) (hc : chkAll n (2 * n) 0 [] = true) : ∃ s, runS 60 ⟨p, ones n, ones n⟩ = some s ∧ shaped n s.p = true ∧ ∀ w ∈ s.ws, w.length ≤ 90 := by
  have can := can_of hp p [] (by simp)
  have hl : (p.map (ren (firsts p))).length = 2 * n := by rw [List.length_map, hp.length]
  rw [← hl] at hc
  have h := chkAll_can _ _ _ hc can
  rw [List.nil_append] at h
  unfold chk at h
  split at h
  · rename_i s0 e0
    have hb := back_ok hp
    have S : Sim n (back (firsts p)) ⟨p.map (ren (firsts p)), ones n, ones n⟩ ⟨p, ones n, ones n⟩ := by
      have one : ∀ x : Int, (x ≠ 0 ∧ -(n : Int) ≤ x ∧ x ≤ n) → sub (ones n) (back (firsts p) x) = (sub (ones n) x).map (back (firsts p)) := fun x hx => by
        rw [sub_ones hx, sub_ones ((back_lt hp x).mp hx)]
        rfl
      refine ⟨back_lt hp, fun y hy => ⟨ren (firsts p) y, back_ren hp ((hp.mem y).mpr hy)⟩, ?_, ⟨ones_length n, ones_length n⟩, ⟨ones_length n, ones_length n⟩, one, one⟩
      show p = (p.map (ren (firsts p))).map (back (firsts p))
      rw [List.map_map]
      conv => lhs; rw [← List.map_id p]
      exact List.map_congr_left fun x m => (back_ren hp m).symm
    have Pl0 : Pl n ⟨p.map (ren (firsts p)), ones n, ones n⟩ := fun x m => by
      obtain ⟨y, my, rfl⟩ := List.mem_map.mp m
      refine (back_lt hp _).mpr ?_
      rw [back_ren hp my]
      exact (hp.mem y).mp my
    obtain ⟨s, f, S'⟩ := sim_run hb S Pl0 e0
    rw [Bool.and_eq_true] at h
    refine ⟨s, f, ?_, fun w mw => ?_⟩
    · rw [S'.p, ren_shaped hb]
      exact h.1
    · obtain ⟨j, hj, rfl⟩ := List.mem_iff_getElem.mp mw
      have hjn : j < n := by rw [S'.l1.1] at hj; exact hj
      obtain ⟨x, hx⟩ := S'.sur ((j : Int) + 1) (by omega)
      have hx1 : x ≠ 0 ∧ -(n : Int) ≤ x ∧ x ≤ n := (S'.lt x).mpr (by rw [hx]; omega)
      have := S'.ws x hx1
      rw [hx, sub_at hj] at this
      rw [this, List.length_map]
      obtain ⟨v, mv, hv⟩ := sub_mem (ws := s0.ws) (l := x) (by rw [S'.l0.1]; exact hx1)
      have hvl := of_decide_eq_true (List.all_eq_true.mp h.2 v mv)
      rcases hv with hv | hv
      · rw [hv]; exact hvl
      · rw [hv, und_length]; exact hvl
  · cases h
end FG

set_option Elab.async false
set_option linter.all false
set_option maxRecDepth 100000
namespace FG
theorem chk_step {n k u : Nat} {pre : List Int} (h1 : u < n → chkAll n k (u + 1) (pre ++ [(u : Int) + 1]) = true) (h2 : ∀ j : Nat, j < u → -((j : Int) + 1) ∉ pre → chkAll n k u (pre ++ [-((j : Int) + 1)]) = true) : chkAll n (k + 1) u pre = true := by
  unfold chkAll
  rw [Bool.and_eq_true, Bool.or_eq_true, decide_eq_true_eq, List.all_eq_true]
  refine ⟨?_, fun j m => ?_⟩
  · by_cases h : n ≤ u
    · exact .inl h
    · exact .inr (h1 (by omega))
  · rw [Bool.or_eq_true, decide_eq_true_eq]
    by_cases h : -((j : Int) + 1) ∈ pre
    · exact .inl h
    · exact .inr (h2 j (List.mem_range.mp m) h)
theorem w1 : chkAll 1 2 0 [] = true := by decide +kernel
theorem w2 : chkAll 2 4 0 [] = true := by decide +kernel
theorem w3 : chkAll 3 6 0 [] = true := by decide +kernel
theorem w4 : chkAll 4 8 0 [] = true := by decide +kernel
theorem a1 : chkAll 5 8 1 [1, -1] = true := by decide +kernel
theorem a2 : chkAll 5 7 2 [1, 2, -1] = true := by decide +kernel
theorem a3 : chkAll 5 7 2 [1, 2, -2] = true := by decide +kernel
theorem a4 : chkAll 5 6 3 [1, 2, 3, -1] = true := by decide +kernel
theorem a5 : chkAll 5 6 3 [1, 2, 3, -2] = true := by decide +kernel
theorem a6 : chkAll 5 6 3 [1, 2, 3, -3] = true := by decide +kernel
theorem a7 : chkAll 5 5 4 [1, 2, 3, 4, -1] = true := by decide +kernel
theorem a8 : chkAll 5 5 4 [1, 2, 3, 4, -2] = true := by decide +kernel
theorem a9 : chkAll 5 5 4 [1, 2, 3, 4, -3] = true := by decide +kernel
theorem aA : chkAll 5 5 4 [1, 2, 3, 4, -4] = true := by decide +kernel
theorem aB : chkAll 5 5 5 [1, 2, 3, 4, 5] = true := by decide +kernel
theorem b4 : chkAll 5 6 4 [1, 2, 3, 4] = true := chk_step (fun _ => aB) fun j hj _ => match j, hj with
  | 0, _ => a7
  | 1, _ => a8
  | 2, _ => a9
  | 3, _ => aA
  | j + 4, h => absurd h (by omega)
theorem b3 : chkAll 5 7 3 [1, 2, 3] = true := chk_step (fun _ => b4) fun j hj _ => match j, hj with
  | 0, _ => a4
  | 1, _ => a5
  | 2, _ => a6
  | j + 3, h => absurd h (by omega)
theorem b2 : chkAll 5 8 2 [1, 2] = true := chk_step (fun _ => b3) fun j hj _ => match j, hj with
  | 0, _ => a2
  | 1, _ => a3
  | j + 2, h => absurd h (by omega)
theorem b1 : chkAll 5 9 1 [1] = true := chk_step (fun _ => b2) fun j hj _ => match j, hj with
  | 0, _ => a1
  | j + 1, h => absurd h (by omega)
theorem w5 : chkAll 5 10 0 [] = true := chk_step (fun _ => b1) fun j hj _ => absurd hj (by omega)
theorem told_all {n : Nat} {p : List Int} (h1 : 1 ≤ n) (h5 : n ≤ 5) (hp : Plate n p) : ∃ s, runS 60 ⟨p, ones n, ones n⟩ = some s ∧ shaped n s.p = true ∧ ∀ w ∈ s.ws, w.length ≤ 90 := by
  refine told_run hp ?_
  match n, h1, h5 with
  | 1, _, _ => exact w1
  | 2, _, _ => exact w2
  | 3, _, _ => exact w3
  | 4, _, _ => exact w4
  | 5, _, _ => exact w5
end FG

set_option Elab.async false
set_option linter.all false
set_option maxHeartbeats 1000000
namespace FG
/-! ### what stays on the way to the told plate -/
section
variable {P : Sl → Prop} (h1 : ∀ s i b s', P s → slideS s i b = some s' → P s') (h2 : ∀ s a, a ∈ s.p → P s → P (turnS s a))
include h1
theorem gather_pres {a z : Int} : ∀ (k : Nat) {s s' : Sl}, P s → gatherS a z k s = some s' → P s'
  | 0, _, _, _, e => by cases e
  | k + 1, s, s', hp, e => by
    unfold gatherS at e
    split at e
    · cases e
    · split at e
      · cases e; exact hp
      · obtain ⟨t, e1, e2⟩ := Option.bind_eq_some_iff.mp e
        exact gather_pres k (h1 _ _ _ _ hp e1) e2
theorem four_pres {x : Int} : ∀ (k : Nat) {s s' : Sl}, P s → fourS x k s = some s' → P s'
  | 0, _, _, hp, e => by cases e; exact hp
  | k + 1, s, s', hp, e => by
    unfold fourS at e
    split at e
    · obtain ⟨t, e1, e2⟩ := Option.bind_eq_some_iff.mp e
      exact four_pres k (h1 _ _ _ _ hp e1) e2
    · cases e
theorem back_pres {a : Int} {done : Nat} : ∀ (k : Nat) {s s' : Sl}, P s → backS a done k s = some s' → P s'
  | 0, _, _, _, e => by cases e
  | k + 1, s, s', hp, e => by
    unfold backS at e
    split at e
    · split at e
      · split at e
        · cases e
        · obtain ⟨t, e1, e2⟩ := Option.bind_eq_some_iff.mp e
          exact back_pres k (four_pres h1 4 hp e1) e2
      · cases e; exact hp
    · cases e
theorem pair_pres : ∀ (k done : Nat) {s s' : Sl}, P s → pairRun k done s = some s' → P s'
  | 0, _, _, _, _, e => by cases e
  | k + 1, done, s, s', hp, e => by
    unfold pairRun at e
    split at e
    · split at e
      · split at e
        · exact pair_pres k (done + 2) hp e
        · obtain ⟨t, e1, e2⟩ := Option.bind_eq_some_iff.mp e
          exact pair_pres k done (h1 _ _ _ _ hp e1) e2
      · cases e
    · cases e; exact hp
include h2
theorem handle_pres {F : Nat} {a z : Int} {done : Nat} {s s' : Sl} (hp : P s) (e : handleS F a z done s = some s') : P s' := by
  unfold handleS at e
  obtain ⟨s1, e1, e⟩ := Option.bind_eq_some_iff.mp e
  obtain ⟨s2, e2, e⟩ := Option.bind_eq_some_iff.mp e
  obtain ⟨s3, e3, e⟩ := Option.bind_eq_some_iff.mp e
  have p3 := gather_pres h1 F (gather_pres h1 F (gather_pres h1 F hp e1) e2) e3
  split at e
  · rename_i hm
    split at e
    · exact back_pres h1 F (h2 _ _ hm p3) e
    · exact back_pres h1 F p3 e
  · cases e
theorem linkRun_pres {F : Nat} : ∀ (k done : Nat) (f : Option (Int × Int)) {s : Sl} {z : Nat × Sl}, P s → linkRun F k done f s = some z → P z.2
  | 0, _, _, _, _, _, e => by cases e
  | k + 1, done, none, s, z, hp, e => by
    unfold linkRun at e
    cases e
    exact hp
  | k + 1, done, some w, s, z, hp, e => by
    unfold linkRun at e
    obtain ⟨s1, e1, e⟩ := Option.bind_eq_some_iff.mp e
    obtain ⟨f, e2, e⟩ := Option.bind_eq_some_iff.mp e
    exact linkRun_pres k (done + 4) f (handle_pres h1 h2 hp e1) e
theorem run_pres {F : Nat} {s s' : Sl} (hp : P s) (e : runS F s = some s') : P s' := by
  unfold runS at e
  obtain ⟨f, e1, e⟩ := Option.bind_eq_some_iff.mp e
  obtain ⟨z, e2, e⟩ := Option.bind_eq_some_iff.mp e
  exact pair_pres h1 F z.1 (linkRun_pres h1 h2 F 0 f hp e2) e
end
theorem Nbr.ne {n : Nat} {b : Bool} {p : List Int} {e o : Int} (hp : Plate n p) (h : Nbr b p e o) : o ≠ e := by
  obtain ⟨he, ho⟩ := h.mem hp
  have hn := hp.neg he
  have ez := hp.nz e he
  intro z
  subst z
  have key : nxt p o = o := by
    unfold Nbr at h
    split at h
    · exact h.2
    · exact h.2
  exact nxt_ne hp.nd he hn (by omega) key
/-- words and what undoes them -/
structure WF (n : Nat) (R0 : List (List Int)) (s : Sl) : Prop where
  pl : Plate n s.p
  lw : s.ws.length = n
  lb : s.bs.length = n
  ws : ∀ w ∈ s.ws, Lets n w ∧ low w = w ∧ w.length ≤ 400
  bs : ∀ w ∈ s.bs, Lets n w ∧ low w = w ∧ w.length ≤ 400
  i1 : s.ws.map (hom s.bs) = ones n
  i2 : s.bs.map (hom s.ws) = ones n
  rm : ∃ R, Dec (RR s.p) s.p R ∧ R.length = R0.length ∧ (R.map ring).Perm (R0.map fun r => ring (flat (sub s.ws) r))
theorem low_one (x : Int) : low [x] = [x] := rfl
theorem subw_back {e o l : Int} (he : e ≠ 0) (hoe : o ≠ e) (hone : o ≠ -e) : low (flat (subw e (-o)) (subw e o l)) = [l] := by
  have s1 : subw e (-o) e = [-o, e] := by simp [subw]
  have s2 : subw e (-o) (-e) = [-e, o] := by
    have : ¬ -e = e := by omega
    simp [subw, this]
  have s3 : ∀ y, y ≠ e → y ≠ -e → subw e (-o) y = [y] := fun y h1 h2 => by simp [subw, h1, h2]
  unfold subw
  by_cases h1 : l = e
  · subst h1
    rw [if_pos rfl]
    show low (flat (subw l (-o)) [o, l]) = [l]
    rw [flat_cons, flat_cons, flat_nil, s3 o hoe hone, s1]
    have := low_cancel [] [l] o
    exact this
  · rw [if_neg h1]
    by_cases h2 : l = -e
    · subst h2
      rw [if_pos rfl]
      show low (flat (subw e (-o)) [-e, -o]) = [-e]
      rw [flat_cons, flat_cons, flat_nil, s2, s3 (-o) (by omega) (by omega)]
      have := low_cancel [-e] [] o
      exact this
    · rw [if_neg h2]
      show low (flat (subw e (-o)) [l]) = [l]
      rw [flat_cons, flat_nil, s3 l h1 h2]
      rfl
theorem hom_slidw {n : Nat} {e o : Int} (he : e ≠ 0 ∧ -(n : Int) ≤ e ∧ e ≤ n) {w : List Int} (hw : Lets n w) : hom (slidw n e o) w = low (flat (subw e o) w) := by
  unfold hom
  congr 1
  induction w with
  | nil => rfl
  | cons x w ih =>
    obtain ⟨hx, hw'⟩ := hw.cons
    rw [flat_cons, flat_cons, sub_slidw he hx, ih hw']
theorem subw_lets {n : Nat} {e o l : Int} (he : e ≠ 0 ∧ -(n : Int) ≤ e ∧ e ≤ n) (ho : o ≠ 0 ∧ -(n : Int) ≤ o ∧ o ≤ n) (hl : l ≠ 0 ∧ -(n : Int) ≤ l ∧ l ≤ n) : Lets n (subw e o l) := fun x m => by
  unfold subw at m
  split at m
  · simp at m; omega
  · split at m
    · simp at m; omega
    · simp at m; omega
theorem getD_pos {ws : List (List Int)} {l : Int} (h : 0 < l) : sub ws l = ws.getD (l - 1).toNat [] := by
  unfold sub
  rw [if_pos h]
theorem getD_map {ws : List (List Int)} {f : List Int → List Int} {i : Nat} (h : i < ws.length) : (ws.map f).getD i [] = f (ws.getD i []) := by
  rw [List.getD_eq_getElem?_getD, List.getD_eq_getElem?_getD, List.getElem?_map, List.getElem?_eq_getElem h]
  rfl
/-- slid there, slid back: each letter by itself -/
theorem slid_undone {n : Nat} {e o : Int} (he : e ≠ 0 ∧ -(n : Int) ≤ e ∧ e ≤ n) (ho : o ≠ 0 ∧ -(n : Int) ≤ o ∧ o ≤ n) (hoe : o ≠ e) (hone : o ≠ -e) : (slidw n e o).map (hom (slidw n e (-o))) = ones n := by
  refine sub_eq (by rw [List.length_map, slidw_length, ones_length]) fun l h1 h2 => ?_
  rw [List.length_map, slidw_length] at h2
  have hl : l ≠ 0 ∧ -(n : Int) ≤ l ∧ l ≤ n := by omega
  rw [getD_pos h1, getD_map (by rw [slidw_length]; omega), ← getD_pos h1, sub_slidw he hl, hom_slidw he (subw_lets he ho hl), subw_back he.1 hoe hone, sub_ones hl]
theorem wf_slide {n : Nat} {R0 : List (List Int)} (hR0 : ∀ r ∈ R0, Lets n r) (s : Sl) (i : Nat) (b : Bool) (s' : Sl) (W : WF n R0 s) (e0 : slideS s i b = some s') : WF n R0 s' := by
  unfold slideS at e0
  split at e0
  · rename_i e o he ho
    split at e0
    · cases e0
    · rename_i hne
      split at e0
      · rename_i hok
        cases e0
        rw [Bool.and_eq_true, decide_eq_true_eq] at hok
        have hi : i < s.p.length := (List.getElem?_eq_some_iff.mp he).1
        have me : e ∈ s.p := List.mem_of_getElem? he
        have mo : o ∈ s.p := List.mem_of_getElem? ho
        have eL := (W.pl.mem e).mp me
        have oL := (W.pl.mem o).mp mo
        have nb : Nbr b s.p e o := by
          have key : ∀ {u v : Int} {j : Nat}, s.p[j]? = some u → s.p[(j + 1) % s.p.length]? = some v → nxt s.p u = v := fun {u v j} h4 h5 => by
            obtain ⟨hj, hu⟩ := List.getElem?_eq_some_iff.mp h4
            have : s.p.idxOf u = j := by rw [← hu]; exact List.Nodup.idxOf_getElem W.pl.nd j hj
            unfold nxt
            rw [this, List.getD_eq_getElem?_getD, h5]
            rfl
          cases b with
          | true => exact ⟨me, key he ho⟩
          | false =>
            refine ⟨mo, key ho ?_⟩
            have : ((i + (s.p.length - 1)) % s.p.length + 1) % s.p.length = i := by
              rw [Nat.mod_add_mod]
              have : i + (s.p.length - 1) + 1 = i + s.p.length := by omega
              rw [this, Nat.add_mod_right, Nat.mod_eq_of_lt hi]
            show s.p[((i + (s.p.length - 1)) % s.p.length + 1) % s.p.length]? = some e
            rw [this]
            exact he
        have hoe := nb.ne W.pl
        have no : -o ≠ 0 ∧ -(n : Int) ≤ -o ∧ -o ≤ n := by omega
        obtain ⟨R, d, lR, pR⟩ := W.rm
        obtain ⟨pl', R', d', lR', pR'⟩ := slide_rowsA W.pl nb hne d
        -- the lists
        have ews : (s.ws.map fun w => low (flat (subw e o) w)) = s.ws.map (hom (slidw n e o)) := List.map_congr_left fun w m => (hom_slidw eL (W.ws w m).1).symm
        have hb : low (flat (sub s.bs) [-o, e]) = hom s.bs [-o, e] := rfl
        have Lb : Lets n [-o, e] := fun x m => by simp at m; omega
        have hbl : ∀ w ∈ s.bs, Lets n w := fun w m => (W.bs w m).1
        have hwl : ∀ w ∈ s.ws, Lets n w := fun w m => (W.ws w m).1
        have ebs : setw s.bs e (hom s.bs [-o, e]) = (slidw n e (-o)).map (hom s.bs) := by
          refine sub_eq (by rw [setw_length, List.length_map, slidw_length, W.lb]) fun l h1 h2 => ?_
          rw [setw_length, W.lb] at h2
          have hl : l ≠ 0 ∧ -(n : Int) ≤ l ∧ l ≤ n := by omega
          rw [sub_setw (by rw [W.lb]; exact eL) (by rw [W.lb]; exact hl)]
          have r : sub ((slidw n e (-o)).map (hom s.bs)) l = hom s.bs (subw e (-o) l) := by
            rw [getD_pos h1, getD_map (by rw [slidw_length]; omega), ← getD_pos h1, sub_slidw eL hl]
          rw [r]
          unfold subw
          by_cases c1 : l = e
          · rw [if_pos c1, if_pos c1]
          · rw [if_neg c1, if_neg c1]
            by_cases c2 : l = -e
            · rw [if_pos c2, if_pos c2, ← hom_und Lb]
              simp [und]
            · rw [if_neg c2, if_neg c2, hom_one]
              obtain ⟨w, mw, hw⟩ := sub_mem (ws := s.bs) (l := l) (by rw [W.lb]; exact hl)
              rcases hw with hw | hw
              · rw [hw, (W.bs w mw).2.1]
              · rw [hw, low_und, (W.bs w mw).2.1]
        have lbs : ∀ w ∈ (slidw n e (-o)).map (hom s.bs), Lets n w := fun w m => by
          obtain ⟨v, _, rfl⟩ := List.mem_map.mp m
          exact hom_lets hbl v
        have sl1 := slidw_lets eL oL
        have sl2 := slidw_lets eL no
        rw [ews] at hok
        refine ⟨pl', ?_, ?_, ?_, ?_, ?_, ?_, R', d', lR'.trans lR, ?_⟩
        · show (s.ws.map _).length = n
          rw [List.length_map, W.lw]
        · show (setw _ _ _).length = n
          rw [setw_length, W.lb]
        · show ∀ w ∈ s.ws.map _, _
          rw [ews]
          intro w m
          have h4 := of_decide_eq_true (List.all_eq_true.mp hok.1 w m)
          obtain ⟨v, mv, rfl⟩ := List.mem_map.mp m
          exact ⟨hom_lets sl1 v, by unfold hom; exact low_low _, h4⟩
        · show ∀ w ∈ setw s.bs e (low (flat (sub s.bs) [-o, e])), _
          intro w m
          have m2 := m
          rw [hb, ebs] at m2
          refine ⟨lbs w m2, ?_, ?_⟩
          · obtain ⟨v, _, rfl⟩ := List.mem_map.mp m2
            unfold hom
            exact low_low _
          · unfold setw at m
            rcases List.mem_or_eq_of_mem_set m with m | rfl
            · exact (W.bs w m).2.2
            · split
              · exact hok.2
              · rw [und_length]; exact hok.2
        · show (s.ws.map _).map (hom (setw s.bs e (hom s.bs [-o, e]))) = ones n
          rw [ews, ebs, List.map_map, ← W.i1]
          refine List.map_congr_left fun w m => ?_
          show hom ((slidw n e (-o)).map (hom s.bs)) (hom (slidw n e o) w) = hom s.bs w
          have Lw := hwl w m
          rw [hom_hom (m := n) sl2 (by rw [slidw_length]; exact hom_lets sl1 w)]
          rw [← hom_hom (m := n) sl1 (by rw [slidw_length]; exact Lw), slid_undone eL oL hoe hne, hom_ones Lw, (W.ws w m).2.1]
        · show (setw s.bs e (hom s.bs [-o, e])).map (hom (s.ws.map _)) = ones n
          rw [ews, ebs, List.map_map]
          have e3 : (slidw n e (-o)).map (hom (slidw n e o)) = ones n := by
            have := slid_undone (n := n) (e := e) (o := -o) eL no (by omega) (by omega)
            rwa [Int.neg_neg] at this
          rw [← e3]
          refine List.map_congr_left fun v m => ?_
          show hom (s.ws.map (hom (slidw n e o))) (hom s.bs v) = hom (slidw n e o) v
          have Lv := sl2 v m
          have Lbv : Lets s.ws.length (hom s.bs v) := by rw [W.lw]; exact hom_lets hbl v
          rw [hom_hom (m := n) hwl Lbv, ← hom_hom (m := n) hbl (by rw [W.lb]; exact Lv), W.i2, hom_ones Lv, hom_low Lv]
        · have q1 : (R'.map ring).Perm ((R.map ring).map fun w => ring (flat (subw e o) w)) := by
            refine pR'.trans (List.Perm.of_eq ?_)
            rw [List.map_map]
            refine List.map_congr_left fun r mr => ?_
            have hr : ∀ x ∈ r, x ≠ 0 := fun x mx => W.pl.nz x (d.perm.mem_iff.mp (List.mem_flatten.mpr ⟨r, mr, mx⟩))
            exact (ring_flat (f := subw e o) (S := fun x => x ≠ 0) (fun x _ => odd_subw eL.1 x trivial) (fun x h => by omega) (fun x h y my => subw_nz eL.1 oL.1 x h y my) hr).symm
          refine q1.trans ((pR.map _).trans (List.Perm.of_eq ?_))
          rw [List.map_map]
          refine List.map_congr_left fun r mr => ?_
          have Lr := hR0 r mr
          have Lf : Lets n (flat (sub s.ws) r) := flat_lets hwl r
          show ring (flat (subw e o) (ring (flat (sub s.ws) r))) = ring (flat (sub (s.ws.map fun w => low (flat (subw e o) w))) r)
          rw [ring_flat (f := subw e o) (S := fun x => x ≠ 0) (fun x _ => odd_subw eL.1 x trivial) (fun x h => by omega) (fun x h y my => subw_nz eL.1 oL.1 x h y my) Lf.nz]
          refine ring_congr ?_
          rw [flat_flat]
          refine low_flat_congr fun x mx => ?_
          rw [sub_map_low (odd_subw eL.1) (fun _ _ _ _ => trivial) (by rw [W.lw]; exact Lr x mx), low_low]
      · cases e0
  · cases e0
theorem wf_turn {n : Nat} {R0 : List (List Int)} (s : Sl) (a : Int) (_ : a ∈ s.p) (W : WF n R0 s) : WF n R0 (turnS s a) := by
  have pp : (s.p.drop (s.p.idxOf a) ++ s.p.take (s.p.idxOf a)).Perm s.p := by
    have := List.perm_append_comm (l₁ := s.p.drop (s.p.idxOf a)) (l₂ := s.p.take (s.p.idxOf a))
    rwa [List.take_append_drop] at this
  obtain ⟨R, d, lR, pR⟩ := W.rm
  have pl' : Plate n (turnS s a).p := W.pl.perm pp
  refine ⟨pl', W.lw, W.lb, W.ws, W.bs, W.i1, W.i2, R, ⟨d.perm.trans pp.symm, fun r mr => ?_⟩, lR, pR⟩
  obtain ⟨x, t, rfl, ch⟩ := d.cyc r mr
  refine ⟨x, t, rfl, ch.imp fun u v mu mv h => ?_⟩
  have mu : u ∈ x :: t := drop_mem mu
  have up : u ∈ s.p := d.perm.mem_iff.mp (List.mem_flatten.mpr ⟨_, mr, mu⟩)
  have nup := W.pl.neg up
  show nxt (s.p.drop (s.p.idxOf a) ++ s.p.take (s.p.idxOf a)) (-u) = v
  have nd := W.pl.nd
  have e1 := List.take_append_drop (s.p.idxOf a) s.p
  rw [← e1] at nd nup
  rw [← nxt_rot nd nup, e1]
  exact h
theorem wf_start {n : Nat} {p : List Int} {R0 : List (List Int)} (hp : Plate n p) (d : Dec (RR p) p R0) : WF n R0 ⟨p, ones n, ones n⟩ := by
  have oneL := ones_lets n
  have o2 : ∀ w ∈ ones n, low w = w ∧ w.length ≤ 400 := fun w m => by
    obtain ⟨k, _, rfl⟩ := List.mem_map.mp m
    exact ⟨rfl, by simp⟩
  have hid : (ones n).map (hom (ones n)) = ones n := by
    conv => rhs; rw [← List.map_id (ones n)]
    exact List.map_congr_left fun w m => by rw [hom_ones (oneL w m), (o2 w m).1]; rfl
  refine ⟨hp, ones_length n, ones_length n, fun w m => ⟨oneL w m, (o2 w m).1, (o2 w m).2⟩, fun w m => ⟨oneL w m, (o2 w m).1, (o2 w m).2⟩, hid, hid, R0, d, rfl, List.Perm.of_eq ?_⟩
  refine List.map_congr_left fun r mr => ?_
  refine ring_congr ?_
  have Lr : Lets n r := fun x mx => (hp.mem x).mp (d.perm.mem_iff.mp (List.mem_flatten.mpr ⟨r, mr, mx⟩))
  exact (hom_ones Lr).symm
end FG

set_option Elab.async false
set_option linter.all false
set_option maxHeartbeats 1000000
namespace FG
/-! ### the told plate's words -/
theorem Ren.nxt {σ : Int → Int} (h : Ren σ) {p : List Int} {x : Int} (hx : x ∈ p) : nxt (p.map σ) (σ x) = σ (nxt p x) := by
  have hp : 0 < p.length := List.length_pos_of_mem hx
  have hl := Nat.mod_lt (p.idxOf x + 1) hp
  unfold FG.nxt
  rw [h.idx, List.length_map, List.getD_eq_getElem?_getD, List.getD_eq_getElem?_getD, List.getElem?_map, List.getElem?_eq_getElem hl]
  rfl
theorem Ren.dec {σ : Int → Int} (h : Ren σ) {n : Nat} {p : List Int} (hp : Plate n p) {R : List (List Int)} (d : Dec (RR p) p R) : Dec (RR (p.map σ)) (p.map σ) (R.map fun r => r.map σ) := by
  refine ⟨?_, fun r mr => ?_⟩
  · have : (R.map fun r => r.map σ).flatten = R.flatten.map σ := by rw [List.map_flatten]
    rw [this]
    exact d.perm.map σ
  · obtain ⟨q, mq, rfl⟩ := List.mem_map.mp mr
    obtain ⟨x, t, rfl, ch⟩ := d.cyc q mq
    refine ⟨σ x, t.map σ, rfl, ?_⟩
    have key : ∀ l : List Int, (∀ y ∈ l, y ∈ p) → Ch (RR p) l → Ch (RR (p.map σ)) (l.map σ) := by
      intro l
      induction l with
      | nil => intro _ _; trivial
      | cons y l ih =>
        intro hm hc
        cases l with
        | nil => trivial
        | cons z l =>
          refine ⟨?_, ih (fun w m => hm w (List.mem_cons_of_mem _ m)) hc.2⟩
          show FG.nxt (p.map σ) (-σ y) = σ z
          rw [← h.odd, h.nxt (hp.neg (hm y List.mem_cons_self))]
          exact congrArg σ hc.1
    have := key (x :: t ++ [x]) (fun y m => d.perm.mem_iff.mp (List.mem_flatten.mpr ⟨_, mq, by
      rcases List.mem_append.mp m with m | m
      · exact m
      · rw [List.mem_singleton.mp m]; simp⟩)) ch
    simpa using this
theorem dec_len {n : Nat} {p : List Int} (hp : Plate n p) {R S : List (List Int)} (d1 : Dec (RR p) p R) (d2 : Dec (RR p) p S) : R.length = S.length := by
  have := (dec_unique (fun x y z h1 h2 => h1.symm.trans h2) R S p hp.nd hp.nz d1 d2).length_eq
  simpa using this
section
variable {n : Nat} {p0 : List Int} {R0 : List (List Int)} {s : Sl} (hp0 : Plate n p0) (d0 : Dec (RR p0) p0 R0) (W : WF n R0 s)
include W
theorem ren_back {y : Int} (hy : y ≠ 0 ∧ -(n : Int) ≤ y ∧ y ≤ n) : ren (firsts s.p) (back (firsts s.p) y) = y := by
  have hb := back_ok W.pl
  have m : back (firsts s.p) y ∈ s.p := (W.pl.mem _).mpr ((back_lt W.pl y).mp hy)
  exact hb.inj _ _ (back_ren W.pl m)
theorem ren_lt {x : Int} (hx : x ≠ 0 ∧ -(n : Int) ≤ x ∧ x ≤ n) : ren (firsts s.p) x ≠ 0 ∧ -(n : Int) ≤ ren (firsts s.p) x ∧ ren (firsts s.p) x ≤ n := by
  refine (back_lt W.pl _).mpr ?_
  rw [back_ren W.pl ((W.pl.mem x).mpr hx)]
  exact hx
theorem led_back : s.p = (s.p.map (ren (firsts s.p))).map (back (firsts s.p)) := by
  rw [List.map_map]
  conv => lhs; rw [← List.map_id s.p]
  exact List.map_congr_left fun x m => (back_ren W.pl m).symm
theorem led_plate : Plate n (s.p.map (ren (firsts s.p))) := by
  refine ⟨?_, fun y => ?_⟩
  · have key : ∀ l : List Int, l.Nodup → (∀ x ∈ l, x ∈ s.p) → (l.map (ren (firsts s.p))).Nodup := by
      intro l
      induction l with
      | nil => intro _ _; exact .nil
      | cons x l ih =>
        intro h1 h2
        rw [List.map_cons]
        refine List.nodup_cons.mpr ⟨fun m => ?_, ih (List.nodup_cons.mp h1).2 fun z mz => h2 z (List.mem_cons_of_mem _ mz)⟩
        obtain ⟨z, mz, e⟩ := List.mem_map.mp m
        have e1 := back_ren W.pl (h2 z (List.mem_cons_of_mem _ mz))
        rw [e, back_ren W.pl (h2 x List.mem_cons_self)] at e1
        exact (List.nodup_cons.mp h1).1 (by rw [e1]; exact mz)
    exact key _ W.pl.nd fun _ m => m
  · constructor
    · intro m
      obtain ⟨x, mx, rfl⟩ := List.mem_map.mp m
      exact ren_lt W ((W.pl.mem x).mp mx)
    · intro h
      refine List.mem_map.mpr ⟨back (firsts s.p) y, (W.pl.mem _).mpr ((back_lt W.pl y).mp h), ren_back W h⟩
variable {L : List (List Int)} (hL1 : L.length = n) (hL2 : ∀ l : Int, (l ≠ 0 ∧ -(n : Int) ≤ l ∧ l ≤ n) → sub L l = [ren (firsts s.p) l])
include hL1 hL2
theorem late_lets : ∀ w ∈ L, Lets n w := fun w m => by
  obtain ⟨i, hi, rfl⟩ := List.mem_iff_getElem.mp m
  have hl : ((i : Int) + 1) ≠ 0 ∧ -(n : Int) ≤ ((i : Int) + 1) ∧ ((i : Int) + 1) ≤ n := by omega
  have := hL2 _ hl
  rw [sub_at hi] at this
  rw [this]
  intro y my
  rw [List.mem_singleton.mp my]
  exact ren_lt W hl
theorem sub_undone {x : Int} (hx : x ≠ 0 ∧ -(n : Int) ≤ x ∧ x ≤ n) : sub ((firsts s.p).map fun x => hom s.bs [x]) (ren (firsts s.p) x) = hom s.bs [x] := by
  have mx := (W.pl.mem x).mpr hx
  have key : ∀ y ∈ firsts s.p, ((firsts s.p).map fun x => hom s.bs [x]).getD ((firsts s.p).idxOf y) [] = hom s.bs [y] := fun y my => by
    have hi := List.idxOf_lt_length_of_mem my
    rw [List.getD_eq_getElem?_getD, List.getElem?_map, List.getElem?_eq_getElem hi, List.getElem_idxOf hi]
    rfl
  unfold sub
  by_cases hm : x ∈ firsts s.p
  · have e : ren (firsts s.p) x = ((firsts s.p).idxOf x : Int) + 1 := by unfold ren; rw [if_pos hm]
    have e2 : (((firsts s.p).idxOf x : Int) + 1 - 1).toNat = (firsts s.p).idxOf x := by omega
    rw [e, if_pos (by omega), e2, key x hm]
  · have hm2 := (firsts_all mx).resolve_left hm
    have e : ren (firsts s.p) x = -((firsts s.p).idxOf (-x) : Int) - 1 := by unfold ren; rw [if_neg hm]
    have e2 : (-(-((firsts s.p).idxOf (-x) : Int) - 1) - 1).toNat = (firsts s.p).idxOf (-x) := by omega
    rw [e, if_neg (by omega), e2, key _ hm2]
    have Lx : Lets n [-x] := fun y my => by rw [List.mem_singleton.mp my]; omega
    rw [← hom_und Lx]
    simp [und]
theorem told_undone : (s.ws.map (hom L)).map (hom ((firsts s.p).map fun x => hom s.bs [x])) = ones n := by
  have LL := late_lets W hL1 hL2
  have e1 : L.map (hom ((firsts s.p).map fun x => hom s.bs [x])) = s.bs := by
    apply List.ext_getElem
    · rw [List.length_map, hL1, W.lb]
    · intro i h1 h2
      rw [List.length_map] at h1
      have hl : ((i : Int) + 1) ≠ 0 ∧ -(n : Int) ≤ ((i : Int) + 1) ∧ ((i : Int) + 1) ≤ n := by omega
      have e2 := hL2 _ hl
      rw [sub_at h1] at e2
      have hlow : low s.bs[i] = s.bs[i] := (W.bs _ (List.getElem_mem h2)).2.1
      rw [List.getElem_map, e2, hom_one, sub_undone W hL1 hL2 hl, hom_one, low_low, sub_at h2, hlow]
  rw [List.map_map, ← W.i1]
  refine List.map_congr_left fun w m => ?_
  show hom _ (hom L w) = hom s.bs w
  rw [← hom_hom (m := n) LL (by rw [hL1]; exact (W.ws w m).1), e1]
theorem told_there : ((firsts s.p).map fun x => hom s.bs [x]).map (hom (s.ws.map (hom L))) = ones n := by
  have hbl : ∀ w ∈ s.bs, Lets n w := fun w m => (W.bs w m).1
  have hwl : ∀ w ∈ s.ws, Lets n w := fun w m => (W.ws w m).1
  have fl := firsts_len W.pl
  apply List.ext_getElem
  · rw [List.length_map, List.length_map, fl, ones_length]
  · intro k h1 h2
    have hk : k < (firsts s.p).length := by simpa using h1
    have mk : (firsts s.p)[k] ∈ firsts s.p := List.getElem_mem hk
    have hx := (W.pl.mem _).mp (mem_firstsGo mk).1
    have Lx : Lets n [(firsts s.p)[k]] := fun y my => by rw [List.mem_singleton.mp my]; exact hx
    rw [List.getElem_map, List.getElem_map, hom_hom (m := n) hwl (by rw [W.lw]; exact hom_lets hbl _), ← hom_hom (m := n) hbl (by rw [W.lb]; exact Lx), W.i2, hom_ones Lx]
    show hom L [(firsts s.p)[k]] = _
    rw [hom_one, hL2 _ hx]
    have nd : (firsts s.p).Nodup := firstsGo_nodup W.pl.nd
    have : ren (firsts s.p) (firsts s.p)[k] = (k : Int) + 1 := by
      unfold ren
      rw [if_pos mk, List.Nodup.idxOf_getElem nd k hk]
    have e2 : (ones n)[k] = [(k : Int) + 1] := by simp [ones]
    rw [this, e2]
    rfl
include hp0 d0
theorem told_rims : srt ((rims p0).map fun r => ring (hom (s.ws.map (hom L)) r)) = rims (s.p.map (ren (firsts s.p))) := by
  have hR0 : ∀ r ∈ R0, Lets n r := fun r mr x mx => (hp0.mem x).mp (d0.perm.mem_iff.mp (List.mem_flatten.mpr ⟨r, mr, mx⟩))
  have LL := late_lets W hL1 hL2
  have hwl : ∀ w ∈ s.ws, Lets n w := fun w m => (W.ws w m).1
  have lp := led_plate W
  obtain ⟨R, d, lR, pR⟩ := W.rm
  have dl := rows_dec lp
  have d2 : Dec (RR s.p) s.p ((rows (s.p.map (ren (firsts s.p)))).map fun r => r.map (back (firsts s.p))) := by
    have := (back_ok W.pl).dec lp dl
    rw [← led_back W] at this
    exact this
  have pu := dec_unique (fun x y z h1 h2 => h1.symm.trans h2) _ _ s.p W.pl.nd W.pl.nz d d2
  have nzL : ∀ x : Int, x ≠ 0 → ∀ y ∈ sub L x, y ≠ 0 := fun x _ y my => (sub_lets LL x y my).1
  have tl : ∀ w ∈ s.ws.map (hom L), Lets n w := fun w m => by
    obtain ⟨v, _, rfl⟩ := List.mem_map.mp m
    exact hom_lets LL v
  show srt _ = srt _
  refine srt_perm ?_
  -- from the rims to the rows
  have q1 : ((rims p0).map fun r => ring (hom (s.ws.map (hom L)) r)).Perm (R0.map fun r => ring (flat (sub L) (ring (flat (sub s.ws) r)))) := by
    rw [rims_dec hp0 d0]
    refine ((perm_srt _).map _).trans (List.Perm.of_eq ?_)
    rw [List.map_map]
    refine List.map_congr_left fun r mr => ?_
    have Lr := hR0 r mr
    show ring (hom (s.ws.map (hom L)) (ring r)) = _
    have e1 : ring (hom (s.ws.map (hom L)) (ring r)) = ring (flat (sub (s.ws.map (hom L))) r) := by
      rw [show hom (s.ws.map (hom L)) (ring r) = low (flat (sub (s.ws.map (hom L))) (ring r)) from rfl, ring_low]
      exact ring_flat (S := fun x => x ≠ 0) (sub_odd _) (fun x h => by omega) (fun x _ y my => (sub_lets tl x y my).1) Lr.nz
    rw [e1, ring_flat (S := fun x => x ≠ 0) (sub_odd L) (fun x h => by omega) nzL (flat_lets hwl r).nz]
    refine ring_congr ?_
    rw [flat_flat]
    refine low_flat_congr fun x mx => ?_
    rw [sub_map (n := 0) (m := n) hwl (by rw [W.lw]; exact Lr x mx)]
    rfl
  refine q1.trans ?_
  have q2 := (pR.symm.trans pu).map fun w => ring (flat (sub L) w)
  rw [List.map_map, List.map_map, List.map_map] at q2
  refine q2.trans (List.Perm.of_eq ?_)
  refine List.map_congr_left fun q mq => ?_
  have hq : ∀ y ∈ q, y ∈ s.p.map (ren (firsts s.p)) := fun y my => dl.perm.mem_iff.mp (List.mem_flatten.mpr ⟨q, mq, my⟩)
  have hbq : ∀ y ∈ q.map (back (firsts s.p)), y ≠ 0 := fun y my => by
    obtain ⟨z, mz, rfl⟩ := List.mem_map.mp my
    exact ((back_lt W.pl z).mp ((lp.mem z).mp (hq z mz))).1
  show ring (flat (sub L) (ring (q.map (back (firsts s.p))))) = ring q
  rw [ring_flat (S := fun x => x ≠ 0) (sub_odd L) (fun x h => by omega) nzL hbq]
  congr 1
  clear hbq mq
  induction q with
  | nil => rfl
  | cons y q ih =>
    have hy := (lp.mem y).mp (hq y List.mem_cons_self)
    rw [List.map_cons, flat_cons, hL2 _ ((back_lt W.pl y).mp hy), ren_back W hy, ih fun z m => hq z (List.mem_cons_of_mem _ m)]
    rfl
omit hL1 hL2 in
theorem told_count : (rims p0).length = (rims (s.p.map (ren (firsts s.p)))).length := by
  have lp := led_plate W
  obtain ⟨R, d, lR, pR⟩ := W.rm
  have dl := rows_dec lp
  have d2 : Dec (RR s.p) s.p ((rows (s.p.map (ren (firsts s.p)))).map fun r => r.map (back (firsts s.p))) := by
    have := (back_ok W.pl).dec lp dl
    rw [← led_back W] at this
    exact this
  have e1 := dec_len W.pl d d2
  have e2 := dec_len hp0 d0 (rows_dec hp0)
  rw [List.length_map] at e1
  have e3 : (rims p0).length = (rows p0).length := by
    unfold rims
    rw [(perm_srt _).length_eq, List.length_map]
  have e4 : (rims (s.p.map (ren (firsts s.p)))).length = (rows (s.p.map (ren (firsts s.p)))).length := by
    unfold rims
    rw [(perm_srt _).length_eq, List.length_map]
  omega
end
theorem shaped_some {n : Nat} {p : List Int} (h : shaped n p = true) : ∃ k, 2 * k ≤ n ∧ p.map (ren (firsts p)) = typed k (n - 2 * k) := by
  unfold shaped at h
  rw [List.any_eq_true] at h
  obtain ⟨k, mk, hk⟩ := h
  have := List.mem_range.mp mk
  exact ⟨k, by omega, of_decide_eq_true hk⟩
def typedOk : Bool := (List.range 3).all fun h => (List.range 6).all fun m => decide (2 * h + m = 0) || decide (5 < 2 * h + m) || decide ((rows (typed h m)).length = m + 1)
theorem typed_ok : typedOk = true := by decide +kernel
theorem typed_rims {h m : Nat} (h1 : 1 ≤ 2 * h + m) (h2 : 2 * h + m ≤ 5) : (rims (typed h m)).length = m + 1 := by
  have := typed_ok
  unfold typedOk at this
  rw [List.all_eq_true] at this
  have := this h (List.mem_range.mpr (by omega))
  rw [List.all_eq_true] at this
  have := this m (List.mem_range.mpr (by omega))
  rw [Bool.or_eq_true, Bool.or_eq_true, decide_eq_true_eq, decide_eq_true_eq, decide_eq_true_eq] at this
  unfold rims
  rw [(perm_srt _).length_eq, List.length_map]
  omega
end FG

set_option Elab.async false
set_option linter.all false
set_option maxHeartbeats 1000000
namespace FG
/-! ### the law's turn -/
theorem rims_ne {n : Nat} {p : List Int} (hp : Plate n p) : ∀ w ∈ rims p, w ≠ [] := fun w m => by
  have d := rows_dec hp
  have m := (perm_srt _).mem_iff.mp m
  obtain ⟨r, mr, rfl⟩ := List.mem_map.mp m
  exact ring_row hp (fun x mx => d.perm.mem_iff.mp (List.mem_flatten.mpr ⟨r, mr, mx⟩)) (d.cyc r mr)
theorem rims_lets {n : Nat} {p : List Int} (hp : Plate n p) : ∀ w ∈ rims p, Lets n w ∧ w.length ≤ p.length := fun w m => by
  have d := rows_dec hp
  have m := (perm_srt _).mem_iff.mp m
  obtain ⟨r, mr, rfl⟩ := List.mem_map.mp m
  have sub : ∀ x ∈ r, x ∈ p := fun x mx => d.perm.mem_iff.mp (List.mem_flatten.mpr ⟨r, mr, mx⟩)
  refine ⟨fun x mx => (hp.mem x).mp (sub x (mem_ring mx)), ?_⟩
  have h1 : (ring r).length ≤ r.length := by
    unfold ring
    rw [(rmin_perm _).length_eq]
    obtain ⟨u, hu⟩ := core_spec _ (low r) (Nat.le_refl _)
    have := congrArg List.length hu
    simp only [List.length_append] at this
    have := low_length r
    omega
  have h2 : r.length ≤ p.length := by
    have nd : r.Nodup := by
      have h0 := d.perm.symm.nodup hp.nd
      obtain ⟨A, B, e⟩ := List.append_of_mem mr
      rw [e, List.flatten_append, List.flatten_cons] at h0
      exact (List.nodup_append.mp (List.nodup_append.mp h0).2.1).1
    exact List.Nodup.length_le_of_subset nd sub
  omega
theorem ring_hom {n : Nat} {ws : List (List Int)} (hws : ∀ w ∈ ws, Lets n w) {w : List Int} {m : Nat} (hw : Lets m w) : ring (hom ws (ring w)) = ring (hom ws w) := by
  rw [show hom ws (ring w) = low (flat (sub ws) (ring w)) from rfl, ring_low, show hom ws w = low (flat (sub ws) w) from rfl, ring_low]
  exact ring_flat (S := fun x => x ≠ 0) (sub_odd ws) (fun x h => by omega) (fun x _ y my => (sub_lets hws x y my).1) hw.nz
theorem slide_rims {n : Nat} {b : Bool} {p : List Int} {e o : Int} (hp : Plate n p) (h : Nbr b p e o) (hne : o ≠ -e) : Plate n (slideA b e o p) ∧ ((rims p).map fun r => ring (hom (slidw n e o) r)).Perm (rims (slideA b e o p)) := by
  obtain ⟨me, mo⟩ := h.mem hp
  have eL := (hp.mem e).mp me
  have oL := (hp.mem o).mp mo
  have d := rows_dec hp
  obtain ⟨pl, R', d', _, pR⟩ := slide_rowsA hp h hne d
  refine ⟨pl, ?_⟩
  rw [rims_dec pl d']
  refine List.Perm.trans ?_ (pR.symm.trans (perm_srt _).symm)
  refine ((perm_srt _).map _).trans (List.Perm.of_eq ?_)
  rw [List.map_map]
  refine List.map_congr_left fun r mr => ?_
  have Lr : Lets n r := fun x mx => (hp.mem x).mp (d.perm.mem_iff.mp (List.mem_flatten.mpr ⟨r, mr, mx⟩))
  show ring (hom (slidw n e o) (ring r)) = _
  rw [ring_hom (slidw_lets eL oL) Lr, hom_slidw eL Lr, ring_low]
/-- a word of each letter and where the rims are led -/
structure Turn (n : Nat) (p0 : List Int) (t : Nat) (ws : List (List Int)) (here : List Int) : Prop where
  pl : Plate n here
  lw : ws.length = n
  wl : ∀ w ∈ ws, Lets n w ∧ w.length ≤ 2 ^ t
  rm : ((rims p0).map fun r => ring (hom ws r)).Perm (rims here)
theorem turn_start {n : Nat} {p0 : List Int} (hp : Plate n p0) : Turn n p0 0 (ones n) p0 := by
  refine ⟨hp, ones_length n, fun w m => ⟨ones_lets n w m, ?_⟩, List.Perm.of_eq ?_⟩
  · obtain ⟨k, _, rfl⟩ := List.mem_map.mp m
    simp
  · conv => rhs; rw [← List.map_id (rims p0)]
    refine List.map_congr_left fun r m => ?_
    have Lr := (rims_lets hp r m).1
    show ring (hom (ones n) r) = r
    rw [hom_ones Lr, ring_low]
    have m := (perm_srt _).mem_iff.mp m
    obtain ⟨q, mq, rfl⟩ := List.mem_map.mp m
    have d := rows_dec hp
    exact ring_ring fun x mx => hp.nz x (d.perm.mem_iff.mp (List.mem_flatten.mpr ⟨q, mq, mx⟩))
theorem turn_next {n : Nat} {p0 : List Int} {t : Nat} {ws : List (List Int)} {here : List Int} {b : Bool} {e o : Int} (hp0 : Plate n p0) (T : Turn n p0 t ws here) (h : Nbr b here e o) (hne : o ≠ -e) (hlen : ∀ w : List Int, (low (flat (sub (slidw n e o)) w)).length ≤ 2 * w.length) : Turn n p0 (t + 1) (ws.map (hom (slidw n e o))) (slideA b e o here) := by
  obtain ⟨me, mo⟩ := h.mem T.pl
  have eL := (T.pl.mem e).mp me
  have oL := (T.pl.mem o).mp mo
  obtain ⟨pl, pr⟩ := slide_rims T.pl h hne
  have sl := slidw_lets eL oL
  refine ⟨pl, by rw [List.length_map, T.lw], fun w m => ?_, ?_⟩
  · obtain ⟨v, mv, rfl⟩ := List.mem_map.mp m
    refine ⟨hom_lets sl v, ?_⟩
    have := hlen v
    have := (T.wl v mv).2
    unfold hom
    rw [Nat.pow_succ]
    omega
  · have q1 := (T.rm.map fun r => ring (hom (slidw n e o) r)).trans pr
    rw [List.map_map] at q1
    refine List.Perm.trans (List.Perm.of_eq ?_) q1
    refine List.map_congr_left fun r m => ?_
    have Lr := (rims_lets hp0 r m).1
    have wl : ∀ w ∈ ws, Lets n w := fun w m => (T.wl w m).1
    show ring (hom (ws.map (hom (slidw n e o))) r) = ring (hom (slidw n e o) (ring (hom ws r)))
    rw [ring_hom sl (hom_lets wl r), hom_hom (m := n) wl (by rw [T.lw]; exact Lr)]
theorem rot_found {x y : List Int} {h : Int} (hn : (x ++ y).Nodup) (e : (y ++ x).head? = some h) : (x ++ y).drop ((x ++ y).idxOf h) ++ (x ++ y).take ((x ++ y).idxOf h) = y ++ x := by
  cases y with
  | nil =>
    rw [List.nil_append] at e ⊢
    cases x with
    | nil => rfl
    | cons a x =>
      have : a = h := by simpa using e
      subst this
      simp
  | cons a y =>
    have : a = h := by simpa using e
    subst this
    have na : a ∉ x := fun m => (List.nodup_append.mp hn).2.2 _ m a (by simp) rfl
    rw [idx_mid na, List.drop_left, List.take_left]
end FG

set_option Elab.async false
set_option linter.all false
set_option maxRecDepth 100000
set_option maxHeartbeats 1000000
namespace DL
open PySem PySem.Spec PyProof.Rows L2

/-! ### words, rows of words -/
def wT (xs : List Int) : T := tI xs
def wL (xs : List Int) : T := lI xs
def rT (ws : List (List Int)) : T := .tup (ws.map wT)
def rL (ws : List (List Int)) : T := .lst (ws.map wT)
theorem en_wT : En wT 1 := en_tup en_int
theorem en_wL : En wL 1 := en_lst en_int
theorem en_rT : En rT 2 := en_tup en_wT
theorem en_rL : En rL 2 := en_lst en_wT
/-! ### statements -/
def rg1 : List T → Option (List T)
  | [.int j] => if -(2 ^ 62) ≤ j ∧ j < 2 ^ 62 then some (rngT 0 j.toNat) else none
  | _ => none
def rg2 : List T → Option (List T)
  | [.int i, .int j] => if -(2 ^ 62) ≤ i ∧ i < 2 ^ 62 ∧ -(2 ^ 62) ≤ j ∧ j < 2 ^ 62 then some (rngT i (j - i).toNat) else none
  | _ => none
theorem rg1_of {j : Int} {n : Nat} (h : j = n) (hn : n ≤ 1000000) : rg1 [.int j] = some (rngT 0 n) := by
  subst h
  unfold rg1
  dsimp only
  rw [if_pos ⟨by omega, by omega⟩, Int.toNat_natCast]
theorem rg2_of {i j : Int} (h1 : -1000000 ≤ i ∧ i ≤ 1000000) (h2 : -1000000 ≤ j ∧ j ≤ 1000000) : rg2 [.int i, .int j] = some (rngT i (j - i).toNat) := by
  unfold rg2
  dsimp only
  rw [if_pos ⟨by omega, by omega, by omega, by omega⟩]
def revC : T → Option Cell
  | .tup us => some ⟨.shr, .tup us.reverse⟩
  | .lst us => if us.all T.flat then some ⟨.own, .lst us.reverse⟩ else none
  | _ => none
def mthC (m : List T → List T → Option (List T)) : Option Cell → List Cell → Option Cell
  | some ⟨.own, .lst us⟩, cs => if cs.all okItem then (m us (ts cs)).map fun us' => ⟨.own, .lst us'⟩ else none
  | _, _ => none
def itT : Cell → Option (List T)
  | ⟨_, .tup us⟩ => some us
  | ⟨k, .lst us⟩ => if k = .vw then none else some us
  | _ => none
def itO : Cell → Option (List T)
  | ⟨_, .tup us⟩ => some us
  | ⟨k, .lst us⟩ => if k = .vw ∧ us.all T.flat = false then none else some us
  | _ => none
section
variable {f g b : Sx} {h fa fb : Ex} {c d : Bx} {it : Ix} {G : Gx} {S : Slots} {e : Option Src}
@[simp] theorem e_seq : sSeq f g S e = (f S e).bind fun z => match z with
  | (.nx, S1, e1) => g S1 e1
  | (fl, S1, e1) => some (fl, S1, e1) := by
  unfold sSeq
  cases f S e with
  | none => rfl
  | some z =>
    obtain ⟨fl, S1, e1⟩ := z
    cases fl <;> rfl
@[simp] theorem e_nx : sNx S e = some (.nx, S, e) := (rfl)
@[simp] theorem e_ct : sCt S e = some (.ct, S, e) := (rfl)
@[simp] theorem e_bk : sBk S e = some (.bk, S, e) := (rfl)
@[simp] theorem e_if : sIf c f g S e = (c S e).bind fun z => if z.1 = true then f S z.2 else g S z.2 := (rfl)
@[simp] theorem e_ret : sRet h S e = (h S e).bind fun z => some (.ret z.1, S, z.2) := (rfl)
@[simp] theorem e_set (i : Nat) : sSet i h S e = (h S e).bind fun z => (keep z.1).bind fun d => some (.nx, S.set i (some d), z.2) := (rfl)
@[simp] theorem e_asg : sAsg h G S e = (h S e).bind fun z => (G z.1 S z.2).bind fun y => some (.nx, y.1, y.2) := (rfl)
@[simp] theorem e_gN (i : Nat) (k : Cell) : gN i k S e = (keep k).bind fun d => some (S.set i (some d), e) := (rfl)
@[simp] theorem e_for : sFor it G b S e = (it S e).bind fun z => forL G b z.1 S z.2 := (rfl)
@[simp] theorem e_bval : bVal h S e = (h S e).bind fun z => match z.1.t with
  | .bl q => some (q, z.2)
  | _ => none := (rfl)
@[simp] theorem e_not : bNot c S e = (c S e).bind fun z => some (!z.1, z.2) := (rfl)
@[simp] theorem e_and : bAnd c d S e = (c S e).bind fun z => if z.1 = true then d S z.2 else some (false, z.2) := (rfl)
@[simp] theorem e_or : bOr c d S e = (c S e).bind fun z => if z.1 = true then some (true, z.2) else d S z.2 := (rfl)
@[simp] theorem e_yes : bYes S e = some (true, e) := (rfl)
@[simp] theorem e_xif : xIf c fa fb S e = (c S e).bind fun z => if z.1 = true then fa S z.2 else fb S z.2 := (rfl)
@[simp] theorem e_bin (o : G2) : xBin o fa fb S e = (fa S e).bind fun x => (fb S x.2).bind fun y => (o x.1.t y.1.t).bind fun z => some (kOf z.1 (jk x.1.k y.1.k) z.2, y.2) := (rfl)
@[simp] theorem e_un (o : G1) : xUn o fa S e = (fa S e).bind fun x => (o x.1.t).bind fun z => some (kOf z.1 x.1.k z.2, x.2) := (rfl)
@[simp] theorem e_call (o : GN) (a : Ax) : xCall o a S e = (a S e).bind fun x => (o (ts x.1)).bind fun z => some (kOf z.1 (jl x.1) z.2, x.2) := (rfl)
@[simp] theorem e_acons (a : Ax) : aCons fa a S e = (fa S e).bind fun x => (a S x.2).bind fun y => some (x.1 :: y.1, y.2) := (rfl)
@[simp] theorem e_anil : aNil S e = some ([], e) := (rfl)
@[simp] theorem e_lst (a : Ax) : xLst a S e = (a S e).bind fun x => if x.1.length ≤ sizeLine then some (⟨jl x.1, .lst (ts x.1)⟩, x.2) else none := (rfl)
@[simp] theorem e_c (t : T) : xC t S e = some (⟨.shr, t⟩, e) := (rfl)
@[simp] theorem e_name (i : Nat) : xName i S e = match S[i]? with
  | some (some k) => some (nk (match k.k with | .own => .vw | q => q) k.t, e)
  | _ => none := (rfl)
@[simp] theorem e_onone : oNone S e = some (none, e) := (rfl)
@[simp] theorem e_osome : oSome fa S e = (fa S e).bind fun x => match x.1.t with
  | .int i => some (some i, x.2)
  | _ => none := (rfl)
@[simp] theorem e_sl (o : G3) (l u : Ox) : xSl o fa l u S e = (fa S e).bind fun x => (l S x.2).bind fun y => (u S y.2).bind fun z => (o x.1.t y.1 z.1).bind fun w => some (kOf w.1 x.1.k w.2, z.2) := (rfl)
@[simp] theorem e_rev : xRev fa S e = (fa S e).bind fun x => (revC x.1.t).map fun c => (c, x.2) := by
  unfold xRev
  cases fa S e with
  | none => rfl
  | some x =>
    obtain ⟨⟨k, t⟩, e1⟩ := x
    cases t with
    | lst us =>
      show (if us.all T.flat then some (_, e1) else none) = ((if us.all T.flat then some (⟨.own, .lst us.reverse⟩ : Cell) else none).map fun c => (c, e1))
      split <;> rfl
    | _ => rfl
@[simp] theorem e_lc (vs : List Nat) : xLc it G c fa vs S e = (it S e).bind fun z => (compL G c fa (wipeS S vs) z.1 z.2 []).bind fun y => some (⟨jl y.1, .lst (ts y.1)⟩, y.2) := (rfl)
@[simp] theorem e_mth (i : Nat) (m : List T → List T → Option (List T)) (a : Ax) : sMth i m a S e = (a S e).bind fun x => (S[i]?).bind fun o => (mthC m o x.1).map fun c => (.nx, S.set i (some c), x.2) := by
  unfold sMth
  cases a S e with
  | none => rfl
  | some x =>
    obtain ⟨cs, e1⟩ := x
    simp only [Option.bind_eq_bind, Option.bind_some]
    cases S[i]? with
    | none => rfl
    | some o =>
      rcases o with _ | ⟨k, t⟩
      · rfl
      · cases k <;> cases t <;> try rfl
        rename_i us
        simp only [Option.bind_some, mthC]
        split
        · cases m us (ts cs) <;> rfl
        · rfl
@[simp] theorem e_gT (n : Nat) (gs : Gxs) (k : Cell) : gT n gs k S e = match k.t with
  | .tup ts => if ts.length = n then gs ts S e else none
  | _ => none := (rfl)
@[simp] theorem e_gsnil : gsNil [] S e = some (S, e) := (rfl)
@[simp] theorem e_gscons (gs : Gxs) (t : T) (us : List T) : gsCons G gs (t :: us) S e = if t.flat then (G ⟨.shr, t⟩ S e).bind fun z => gs us z.1 z.2 else none := (rfl)
@[simp] theorem e_iseq : iSeq fa S e = (fa S e).bind fun x => (itT x.1).map fun us => (us, x.2) := by
  unfold iSeq
  cases fa S e with
  | none => rfl
  | some x =>
    obtain ⟨⟨k, t⟩, e1⟩ := x
    cases t with
    | lst us =>
      simp only [Option.bind_eq_bind, Option.bind_some, itT]
      split <;> rfl
    | _ => rfl
@[simp] theorem e_iseqO : iSeqO fa S e = (fa S e).bind fun x => (itO x.1).map fun us => (us, x.2) := by
  unfold iSeqO
  cases fa S e with
  | none => rfl
  | some x =>
    obtain ⟨⟨k, t⟩, e1⟩ := x
    cases t with
    | lst us =>
      simp only [Option.bind_eq_bind, Option.bind_some, itO]
      split <;> rfl
    | _ => rfl
theorem e_ir1 (a : Ax) : iR1 a S e = (a S e).bind fun x => (rg1 (ts x.1)).map fun us => (us, x.2) := by
  unfold iR1
  cases a S e with
  | none => rfl
  | some x =>
    simp only [Option.bind_eq_bind, Option.bind_some]
    generalize ts x.1 = us
    unfold rg1
    match us with
    | [] => rfl
    | [.int j] =>
      dsimp only
      by_cases h : -(2 ^ 62) ≤ j ∧ j < 2 ^ 62
      · rw [if_pos h, if_pos h]; rfl
      · rw [if_neg h, if_neg h]; rfl
    | [.non] => rfl
    | [.bl _] => rfl
    | [.str _] => rfl
    | [.src] => rfl
    | [.tup _] => rfl
    | [.lst _] => rfl
    | [.dct _ _] => rfl
    | [.obj _ _ _] => rfl
    | a :: b :: c => cases a <;> rfl
theorem e_ir2 (a : Ax) : iR2 a S e = (a S e).bind fun x => (rg2 (ts x.1)).map fun us => (us, x.2) := by
  unfold iR2
  cases a S e with
  | none => rfl
  | some x =>
    simp only [Option.bind_eq_bind, Option.bind_some]
    generalize ts x.1 = us
    unfold rg2
    split
    · rename_i i j
      try dsimp only
      by_cases h : -(2 ^ 62) ≤ i ∧ i < 2 ^ 62 ∧ -(2 ^ 62) ≤ j ∧ j < 2 ^ 62
      · rw [if_pos h, if_pos h]; rfl
      · rw [if_neg h, if_neg h]; rfl
    · rename_i h
      first
        | rfl
        | (split
           · rename_i i j
             exact absurd rfl (h i j)
           · rfl)
theorem it_r1 {a : Ax} {k : Kd} {n : Nat} {j : Int} (ha : a S e = some ([⟨k, .int j⟩], e)) (hj : j = n) (hn : n ≤ 1000000) : iR1 a S e = some ((List.range n).map (fun (i : Nat) => T.int (0 + (i : Int))), e) := by
  have h1 : rg1 (ts [⟨k, .int j⟩]) = some (rngT 0 n) := rg1_of hj hn
  rw [e_ir1, ha, Option.bind_some, h1]
  rfl
theorem it_r2 {a : Ax} {k k2 : Kd} {i j : Int} (ha : a S e = some ([⟨k, .int i⟩, ⟨k2, .int j⟩], e)) (h1 : -1000000 ≤ i ∧ i ≤ 1000000) (h2 : -1000000 ≤ j ∧ j ≤ 1000000) : iR2 a S e = some ((List.range (j - i).toNat).map (fun (q : Nat) => T.int (i + (q : Int))), e) := by
  have h1 : rg2 (ts [⟨k, .int i⟩, ⟨k2, .int j⟩]) = some (rngT i (j - i).toNat) := rg2_of h1 h2
  rw [e_ir2, ha, Option.bind_some, h1]
  rfl
theorem e_retN (i : Nat) : sRetN i S e = match S[i]? with
  | some (some c) => some (.ret c, S.set i none, e)
  | _ => none := (rfl)
@[simp] theorem e_bm (o : GM) (a : Ax) : xBm o fa a S e = (fa S e).bind fun x => (a S x.2).bind fun y => (o x.1.t (ts y.1)).bind fun z => some (kOf z.1 (jk x.1.k (jl y.1)) z.2, y.2) := (rfl)
end
@[simp] theorem forL_nil (G : Gx) (b : Sx) (S : Slots) (e : Option Src) : forL G b [] S e = some (.nx, S, e) := (rfl)
theorem forL_cons (G : Gx) (b : Sx) (t : T) (its : List T) (S : Slots) (e : Option Src) : forL G b (t :: its) S e = (G (nk .shr t) S e).bind fun z => (b z.1 z.2).bind fun y => match y with
  | (.nx, S, e) => forL G b its S e
  | (.ct, S, e) => forL G b its S e
  | (.bk, S, e) => some (.nx, S, e)
  | (.ret c, S, e) => some (.ret c, S, e) := by
  rw [forL]
  cases G (nk .shr t) S e with
  | none => rfl
  | some z =>
    obtain ⟨S1, e1⟩ := z
    show (b S1 e1 >>= _) = _
    simp only [Option.bind_eq_bind, Option.bind_some]
    cases b S1 e1 with
    | none => rfl
    | some y =>
      obtain ⟨fl, S2, e2⟩ := y
      cases fl <;> rfl
theorem whileN_succ (c : Bx) (b : Sx) (n : Nat) (S : Slots) (e : Option Src) : whileN c b (n + 1) S e = (c S e).bind fun z => if z.1 = true then (b S z.2).bind fun y => match y with
  | (.nx, S, e) => whileN c b n S e
  | (.ct, S, e) => whileN c b n S e
  | (.bk, S, e) => some (.nx, S, e)
  | (.ret c, S, e) => some (.ret c, S, e) else some (.nx, S, z.2) := by
  rw [whileN]
  cases c S e with
  | none => rfl
  | some z =>
    obtain ⟨d, e1⟩ := z
    cases d with
    | false => rfl
    | true =>
      simp only [Option.bind_eq_bind, Option.bind_some, if_true]
      cases b S e1 with
      | none => rfl
      | some y =>
        obtain ⟨fl, S2, e2⟩ := y
        cases fl <;> rfl
@[simp] theorem e_while (n : Nat) (c : Bx) (b : Sx) (S : Slots) (e : Option Src) : sWhile n c b S e = whileN c b n S e := (rfl)
/-! ### data -/
@[simp] theorem f_wT (w : List Int) : (wT w).flat = true := (rfl)
@[simp] theorem f_rT (w : List (List Int)) : (rT w).flat = true := (rfl)
@[simp] theorem f_wL (w : List Int) : (wL w).flat = false := (rfl)
@[simp] theorem f_rL (w : List (List Int)) : (rL w).flat = false := (rfl)
@[simp] theorem f_int (i : Int) : (T.int i).flat = true := (rfl)
@[simp] theorem f_bl (i : Bool) : (T.bl i).flat = true := (rfl)
@[simp] theorem f_str (i : Str) : (T.str i).flat = true := (rfl)
@[simp] theorem f_src : T.src.flat = true := (rfl)
@[simp] theorem f_non : T.non.flat = true := (rfl)
@[simp] theorem f_tup (us : List T) : (T.tup us).flat = true := (rfl)
@[simp] theorem f_lst (us : List T) : (T.lst us).flat = false := (rfl)
@[simp] theorem f_dct (k : List Key) (us : List T) : (T.dct k us).flat = false := (rfl)
@[simp] theorem f_obj (C : Addr) (k : List Str) (us : List T) : (T.obj C k us).flat = false := (rfl)
theorem nk_flat {k : Kd} {t : T} (h : t.flat = true) : nk k t = ⟨.shr, t⟩ := by unfold nk; rw [if_pos h]
theorem nk_not {k : Kd} {t : T} (h : t.flat = false) : nk k t = ⟨k, t⟩ := by unfold nk; rw [if_neg (by rw [h]; decide)]
@[simp] theorem nk_wT (k : Kd) (w : List Int) : nk k (wT w) = ⟨.shr, wT w⟩ := (rfl)
@[simp] theorem nk_rT (k : Kd) (w : List (List Int)) : nk k (rT w) = ⟨.shr, rT w⟩ := (rfl)
@[simp] theorem nk_wL (k : Kd) (w : List Int) : nk k (wL w) = ⟨k, wL w⟩ := (rfl)
@[simp] theorem nk_rL (k : Kd) (w : List (List Int)) : nk k (rL w) = ⟨k, rL w⟩ := (rfl)
@[simp] theorem nk_int (k : Kd) (w : Int) : nk k (.int w) = ⟨.shr, .int w⟩ := (rfl)
@[simp] theorem nk_bl (k : Kd) (w : Bool) : nk k (.bl w) = ⟨.shr, .bl w⟩ := (rfl)
@[simp] theorem nk_str (k : Kd) (w : Str) : nk k (.str w) = ⟨.shr, .str w⟩ := (rfl)
@[simp] theorem nk_src (k : Kd) : nk k .src = ⟨.shr, .src⟩ := (rfl)
@[simp] theorem nk_non (k : Kd) : nk k .non = ⟨.shr, .non⟩ := (rfl)
@[simp] theorem nk_tup (k : Kd) (us : List T) : nk k (.tup us) = ⟨.shr, .tup us⟩ := (rfl)
@[simp] theorem nk_lst (k : Kd) (us : List T) : nk k (.lst us) = ⟨k, .lst us⟩ := (rfl)
@[simp] theorem nk_dct (k : Kd) (a : List Key) (us : List T) : nk k (.dct a us) = ⟨k, .dct a us⟩ := (rfl)
@[simp] theorem nk_obj (k : Kd) (C : Addr) (a : List Str) (us : List T) : nk k (.obj C a us) = ⟨k, .obj C a us⟩ := (rfl)
theorem kOf_flat {n : Bool} {k : Kd} {t : T} (h : t.flat = true) : kOf n k t = ⟨.shr, t⟩ := nk_flat h
@[simp] theorem kOf_wT (n : Bool) (k : Kd) (w : List Int) : kOf n k (wT w) = ⟨.shr, wT w⟩ := (rfl)
@[simp] theorem kOf_rT (n : Bool) (k : Kd) (w : List (List Int)) : kOf n k (rT w) = ⟨.shr, rT w⟩ := (rfl)
@[simp] theorem kOf_wL (k : Kd) (w : List Int) : kOf true k (wL w) = ⟨.own, wL w⟩ := (rfl)
@[simp] theorem kOf_rL (k : Kd) (w : List (List Int)) : kOf true k (rL w) = ⟨.own, rL w⟩ := (rfl)
@[simp] theorem kOf_int (n : Bool) (k : Kd) (w : Int) : kOf n k (.int w) = ⟨.shr, .int w⟩ := (rfl)
@[simp] theorem kOf_bl (n : Bool) (k : Kd) (w : Bool) : kOf n k (.bl w) = ⟨.shr, .bl w⟩ := (rfl)
@[simp] theorem kOf_str (n : Bool) (k : Kd) (w : Str) : kOf n k (.str w) = ⟨.shr, .str w⟩ := (rfl)
@[simp] theorem kOf_non (n : Bool) (k : Kd) : kOf n k .non = ⟨.shr, .non⟩ := (rfl)
@[simp] theorem kOf_tup (n : Bool) (k : Kd) (us : List T) : kOf n k (.tup us) = ⟨.shr, .tup us⟩ := (rfl)
@[simp] theorem kOf_lst (k : Kd) (us : List T) : kOf true k (.lst us) = ⟨.own, .lst us⟩ := (rfl)
@[simp] theorem kOf_dct (k : Kd) (a : List Key) (us : List T) : kOf true k (.dct a us) = ⟨.own, .dct a us⟩ := (rfl)
@[simp] theorem keep_shr (t : T) : keep ⟨.shr, t⟩ = some ⟨.shr, t⟩ := by
  unfold keep
  split <;> rfl
@[simp] theorem keep_own_wL (w : List Int) : keep ⟨.own, wL w⟩ = some ⟨.own, wL w⟩ := (rfl)
@[simp] theorem keep_own_rL (w : List (List Int)) : keep ⟨.own, rL w⟩ = some ⟨.own, rL w⟩ := (rfl)
@[simp] theorem keep_own_lst (w : List T) : keep ⟨.own, .lst w⟩ = some ⟨.own, .lst w⟩ := (rfl)
@[simp] theorem keep_own_dct (k : List Key) (w : List T) : keep ⟨.own, .dct k w⟩ = some ⟨.own, .dct k w⟩ := (rfl)
@[simp] theorem keep_own_obj (C : Addr) (k : List Str) (w : List T) : keep ⟨.own, .obj C k w⟩ = some ⟨.own, .obj C k w⟩ := (rfl)
@[simp] theorem ts_nil : ts [] = [] := (rfl)
@[simp] theorem ts_cons (c : Cell) (cs : List Cell) : ts (c :: cs) = c.t :: ts cs := (rfl)
theorem wL_nil : (T.lst []) = wL [] := rfl
@[simp] theorem jl_nil : jl [] = .own := (rfl)
/-! ### comparing -/
theorem eqX_en {α : Type} [DecidableEq α] {f : α → T} {n : Nat} (h : En f n) (hn : n ≤ 64) (hs : ∀ a b : α, ∀ neg : Bool, gEqS neg (f a) (f b) = none) (neg : Bool) (a b : α) : gEqX neg (f a) (f b) = some (true, .bl (if neg then !decide (a = b) else decide (a = b))) := by
  unfold gEqX
  rw [hs a b neg]
  exact gEqB_en h hn neg a b
@[simp] theorem eqX_int (neg : Bool) (a b : Int) : gEqX neg (.int a) (.int b) = some (true, .bl (if neg then !decide (a = b) else decide (a = b))) := eqX_en en_int (by decide) (fun _ _ _ => rfl) neg a b
@[simp] theorem eqX_wT (neg : Bool) (a b : List Int) : gEqX neg (wT a) (wT b) = some (true, .bl (if neg then !decide (a = b) else decide (a = b))) := eqX_en en_wT (by decide) (fun _ _ _ => rfl) neg a b
@[simp] theorem eqX_wL (neg : Bool) (a b : List Int) : gEqX neg (wL a) (wL b) = some (true, .bl (if neg then !decide (a = b) else decide (a = b))) := eqX_en en_wL (by decide) (fun _ _ _ => rfl) neg a b
@[simp] theorem eqX_rT (neg : Bool) (a b : List (List Int)) : gEqX neg (rT a) (rT b) = some (true, .bl (if neg then !decide (a = b) else decide (a = b))) := eqX_en en_rT (by decide) (fun _ _ _ => rfl) neg a b
@[simp] theorem eqX_rL (neg : Bool) (a b : List (List Int)) : gEqX neg (rL a) (rL b) = some (true, .bl (if neg then !decide (a = b) else decide (a = b))) := eqX_en en_rL (by decide) (fun _ _ _ => rfl) neg a b
@[simp] theorem eqX_str (neg : Bool) (a b : Str) : gEqX neg (.str a) (.str b) = some (true, .bl (if neg then !decide (a = b) else decide (a = b))) := (rfl)
@[simp] theorem eqX_nilL (neg : Bool) (a : List Int) : gEqX neg (wL a) (.lst []) = some (true, .bl (if neg then !decide (a = []) else decide (a = []))) := eqX_wL neg a []
@[simp] theorem eqX_nilT (neg : Bool) (a : List Int) : gEqX neg (wT a) (.tup []) = some (true, .bl (if neg then !decide (a = []) else decide (a = []))) := eqX_wT neg a []
/-! ### whole numbers -/
@[simp] theorem g_add (a b : Int) : gAdd (.int a) (.int b) = some (true, .int (a + b)) := (rfl)
@[simp] theorem g_sub (a b : Int) : DL.gSub (.int a) (.int b) = some (true, .int (a - b)) := (rfl)
@[simp] theorem g_lt (a b : Int) : gLt (.int a) (.int b) = some (true, .bl (decide (a < b))) := (rfl)
@[simp] theorem g_le (a b : Int) : gLe (.int a) (.int b) = some (true, .bl (decide (a ≤ b))) := (rfl)
@[simp] theorem g_gt (a b : Int) : gGt (.int a) (.int b) = some (true, .bl (decide (b < a))) := (rfl)
@[simp] theorem g_ge (a b : Int) : gGe (.int a) (.int b) = some (true, .bl (decide (b ≤ a))) := (rfl)
@[simp] theorem g_neg (a : Int) : gNeg (.int a) = some (true, .int (-a)) := (rfl)
theorem g_mul {a b : Int} (h : (-(2 ^ 64) < a ∧ a < 2 ^ 64) ∨ (-(2 ^ 64) < b ∧ b < 2 ^ 64)) : gMul (.int a) (.int b) = some (true, .int (a * b)) := if_pos h
@[simp] theorem g_int1 (a : Int) : gInt1 [.int a] = some (true, .int a) := (rfl)
@[simp] theorem g_abs (a : Int) : gAbs [.int a] = some (true, .int (if a < 0 then -a else a)) := (rfl)
theorem g_mod {a b : Int} (h : 0 < b) : gMod (.int a) (.int b) = some (true, .int (a % b)) := by
  show ((if 0 < b then some (T.int (a % b)) else none).map fun t => (true, t)) = _
  rw [if_pos h]
  rfl
theorem g_div {a b : Int} (h : 0 < b) (h2 : b < 1073741824) : gDiv (.int a) (.int b) = some (true, .int (a / b)) := by
  show ((if 0 < b ∧ b < 1073741824 then some (T.int (a / b)) else none).map fun t => (true, t)) = _
  rw [if_pos ⟨h, h2⟩]
  rfl
@[simp] theorem g_mx2 (a b : Int) : gMx2 true [.int a, .int b] = some (true, .int (if b > a then b else a)) := (rfl)
/-! ### rows -/
@[simp] theorem g_len_wT (w : List Int) : gLen [wT w] = some (true, .int w.length) := by
  show some (true, T.int ((w.map T.int).length : Nat)) = _
  rw [List.length_map]
@[simp] theorem g_len_wL (w : List Int) : gLen [wL w] = some (true, .int w.length) := by
  show some (true, T.int ((w.map T.int).length : Nat)) = _
  rw [List.length_map]
@[simp] theorem g_len_rT (w : List (List Int)) : gLen [rT w] = some (true, .int w.length) := by
  show some (true, T.int ((w.map wT).length : Nat)) = _
  rw [List.length_map]
@[simp] theorem g_len_rL (w : List (List Int)) : gLen [rL w] = some (true, .int w.length) := by
  show some (true, T.int ((w.map wT).length : Nat)) = _
  rw [List.length_map]
theorem all_int (w : List Int) : (w.map T.int).all T.flat = true := List.all_eq_true.mpr fun t m => by
  obtain ⟨x, _, rfl⟩ := List.mem_map.mp m
  rfl
theorem all_wT (w : List (List Int)) : (w.map wT).all T.flat = true := List.all_eq_true.mpr fun t m => by
  obtain ⟨x, _, rfl⟩ := List.mem_map.mp m
  rfl
@[simp] theorem g_tuple_wL (w : List Int) : gTuple [wL w] = some (true, wT w) := by
  show (if (w.map T.int).all T.flat then some (true, T.tup (w.map T.int)) else none) = _
  rw [if_pos (all_int w)]
  rfl
@[simp] theorem g_tuple_rL (w : List (List Int)) : gTuple [rL w] = some (true, rT w) := by
  show (if (w.map wT).all T.flat then some (true, T.tup (w.map wT)) else none) = _
  rw [if_pos (all_wT w)]
  rfl
@[simp] theorem g_tuple_wT (w : List Int) : gTuple [wT w] = some (true, wT w) := (rfl)
@[simp] theorem g_list_wL (w : List Int) : gList [wL w] = some (true, wL w) := by
  show some ((w.map T.int).all T.flat, T.lst (w.map T.int)) = _
  rw [all_int]
  rfl
@[simp] theorem g_list_rL (w : List (List Int)) : gList [rL w] = some (true, rL w) := by
  show some ((w.map wT).all T.flat, T.lst (w.map wT)) = _
  rw [all_wT]
  rfl
@[simp] theorem g_list_wT (w : List Int) : gList [wT w] = some (true, wL w) := (rfl)
theorem atI_map {α β : Type} (f : α → β) (xs : List α) (i : Int) : atI (xs.map f) i = (atI xs i).map f := by
  unfold atI
  rw [List.length_map]
  cases ixN xs.length i with
  | none => rfl
  | some j => simp
@[simp] theorem g_sub_wT (w : List Int) (i : Int) : gSubX (wT w) (.int i) = (atI w i).map fun x => (false, .int x) := by
  show (atI (w.map T.int) i).map (fun t => (false, t)) = _
  rw [atI_map]
  cases atI w i <;> rfl
@[simp] theorem g_sub_wL (w : List Int) (i : Int) : gSubX (wL w) (.int i) = (atI w i).map fun x => (false, .int x) := by
  show (atI (w.map T.int) i).map (fun t => (false, t)) = _
  rw [atI_map]
  cases atI w i <;> rfl
@[simp] theorem g_sub_rT (w : List (List Int)) (i : Int) : gSubX (rT w) (.int i) = (atI w i).map fun x => (false, wT x) := by
  show (atI (w.map wT) i).map (fun t => (false, t)) = _
  rw [atI_map]
  cases atI w i <;> rfl
@[simp] theorem g_sub_rL (w : List (List Int)) (i : Int) : gSubX (rL w) (.int i) = (atI w i).map fun x => (false, wT x) := by
  show (atI (w.map wT) i).map (fun t => (false, t)) = _
  rw [atI_map]
  cases atI w i <;> rfl
theorem g_add_wT {a b : List Int} (h : a.length + b.length ≤ sizeLine) : gAdd (wT a) (wT b) = some (true, wT (a ++ b)) := by
  show (if (a.map T.int).length + (b.map T.int).length ≤ sizeLine then some (true, T.tup (a.map T.int ++ b.map T.int)) else none) = _
  rw [List.length_map, List.length_map, if_pos h, ← List.map_append]
  rfl
theorem g_add_rL {a b : List (List Int)} (h : a.length + b.length ≤ sizeLine) : gAdd (rL a) (rL b) = some (true, rL (a ++ b)) := by
  show (if (a.map wT).length + (b.map wT).length ≤ sizeLine then some ((a.map wT).all T.flat && (b.map wT).all T.flat, T.lst (a.map wT ++ b.map wT)) else none) = _
  rw [List.length_map, List.length_map, if_pos h, all_wT, all_wT, ← List.map_append]
  rfl
theorem g_add_wL {a b : List Int} (h : a.length + b.length ≤ sizeLine) : gAdd (wL a) (wL b) = some (true, wL (a ++ b)) := by
  show (if (a.map T.int).length + (b.map T.int).length ≤ sizeLine then some ((a.map T.int).all T.flat && (b.map T.int).all T.flat, T.lst (a.map T.int ++ b.map T.int)) else none) = _
  rw [List.length_map, List.length_map, if_pos h, all_int, all_int, ← List.map_append]
  rfl
theorem cutT_map {α β : Type} (f : α → β) (xs : List α) (lo hi : Option Int) : cutT (xs.map f) lo hi = (cutT xs lo hi).map f := by
  unfold cutT
  rw [List.length_map, List.map_take, List.map_drop]
@[simp] theorem g_sl_wT (w : List Int) (lo hi : Option Int) : gSl (wT w) lo hi = some (true, wT (cutT w lo hi)) := by
  show some (true, T.tup (cutT (w.map T.int) lo hi)) = _
  rw [cutT_map]
  rfl
theorem mapM_wT (ws : List (List Int)) : (ws.map wT).mapM T.tI? = some ws := mapM_enc (fun w => by
  show (w.map T.int).mapM T.int? = some w
  exact mapM_enc (f := T.int) (d := T.int?) (fun _ => rfl) w) ws
theorem mapM_int (w : List Int) : (w.map T.int).mapM T.int? = some w := mapM_enc (f := T.int) (d := T.int?) (fun _ => rfl) w
@[simp] theorem g_min (x : List Int) (xs : List (List Int)) : gMinT [rL (x :: xs)] = some (true, wT (minL x xs)) := by
  show (match ((x :: xs).map wT).mapM T.tI? with | some (x :: xs) => some (true, tI (minL x xs)) | _ => none) = _
  rw [mapM_wT]
  rfl
theorem g_sort {ws : List (List Int)} (h : ∀ w ∈ ws, w ≠ []) : gSortT [rL ws] = some (true, rL (sortL ws)) := by
  show (match (ws.map wT).mapM T.tI? with | some nss => if nss.all (fun ns => !ns.isEmpty) then some (true, T.lst ((sortL nss).map tI)) else none | _ => none) = _
  rw [mapM_wT]
  dsimp only
  rw [if_pos (List.all_eq_true.mpr fun w m => by
    have := h w m
    cases w with
    | nil => exact absurd rfl this
    | cons => rfl)]
  rfl
theorem listLt_eq : ∀ a b : List Int, PySem.W.listLt a b = FG.ltL a b
  | [], [] => rfl
  | [], _ :: _ => rfl
  | _ :: _, [] => rfl
  | x :: xs, y :: ys => by
    unfold PySem.W.listLt FG.ltL
    rw [listLt_eq xs ys]
    rfl
theorem minL_eq (x : List Int) (xs : List (List Int)) : minL x xs = FG.least x xs := by
  unfold minL
  suffices h : ∀ (ys : List (List Int)) (y : List Int), (PySem.W.minOf (PySem.W.Tup.mk y) (ys.map PySem.W.Tup.mk)).items = FG.least y ys from h xs x
  intro ys
  induction ys with
  | nil => intro y; rfl
  | cons z ys ih =>
    intro y
    have e : PySem.W.DatumOrd.lt (PySem.W.Tup.mk z) (PySem.W.Tup.mk y) = FG.ltL z y := listLt_eq z y
    have e1 : PySem.W.minOf (PySem.W.Tup.mk y) ((z :: ys).map PySem.W.Tup.mk) = PySem.W.minOf (if PySem.W.DatumOrd.lt (PySem.W.Tup.mk z) (PySem.W.Tup.mk y) = true then PySem.W.Tup.mk z else PySem.W.Tup.mk y) (ys.map PySem.W.Tup.mk) := rfl
    have e2 : FG.least y (z :: ys) = FG.least (if FG.ltL z y = true then z else y) ys := rfl
    rw [e1, e2, e]
    by_cases h : FG.ltL z y = true
    · rw [if_pos h, if_pos h]; exact ih z
    · rw [if_neg h, if_neg h]; exact ih y
theorem sortL_eq (ws : List (List Int)) : sortL ws = FG.srt ws := by
  unfold sortL FG.srt
  congr 1
  funext a b
  have e : PySem.W.dataLt (encT b) (encT a) = FG.ltL b a := (PySem.W.DatumOrd.lt_eq (PySem.W.Tup.mk b) (PySem.W.Tup.mk a)).trans (listLt_eq b a)
  have e2 : PySem.W.dataLe false encT a b = !PySem.W.dataLt (encT b) (encT a) := rfl
  rw [e2, e]
  rfl
@[simp] theorem g_idx_wT (w : List Int) (k : Int) : gIdx (wT w) [.int k] = if k ∈ w then some (true, .int (w.idxOf k : Nat)) else none := by
  show ((w.map T.int).mapM T.int?).bind _ = _
  rw [mapM_int]
  rfl
@[simp] theorem g_idx_wL (w : List Int) (k : Int) : gIdx (wL w) [.int k] = if k ∈ w then some (true, .int (w.idxOf k : Nat)) else none := by
  show ((w.map T.int).mapM T.int?).bind _ = _
  rw [mapM_int]
  rfl
@[simp] theorem revC_wT (w : List Int) : revC (wT w) = some ⟨.shr, wT w.reverse⟩ := by
  show some (⟨.shr, .tup (w.map T.int).reverse⟩ : Cell) = _
  rw [← List.map_reverse]
  rfl
@[simp] theorem itT_wT (k : Kd) (w : List Int) : itT ⟨k, wT w⟩ = some (w.map T.int) := (rfl)
@[simp] theorem itT_rT (k : Kd) (w : List (List Int)) : itT ⟨k, rT w⟩ = some (w.map wT) := (rfl)
@[simp] theorem itT_wLo (w : List Int) : itT ⟨.own, wL w⟩ = some (w.map T.int) := (rfl)
@[simp] theorem itT_wLs (w : List Int) : itT ⟨.shr, wL w⟩ = some (w.map T.int) := (rfl)
@[simp] theorem itT_rLo (w : List (List Int)) : itT ⟨.own, rL w⟩ = some (w.map wT) := (rfl)
@[simp] theorem itT_rLs (w : List (List Int)) : itT ⟨.shr, rL w⟩ = some (w.map wT) := (rfl)
@[simp] theorem itO_wT (k : Kd) (w : List Int) : itO ⟨k, wT w⟩ = some (w.map T.int) := (rfl)
@[simp] theorem itO_rT (k : Kd) (w : List (List Int)) : itO ⟨k, rT w⟩ = some (w.map wT) := (rfl)
@[simp] theorem itO_wL (k : Kd) (w : List Int) : itO ⟨k, wL w⟩ = some (w.map T.int) := by
  show (if k = .vw ∧ (w.map T.int).all T.flat = false then none else some _) = _
  rw [if_neg (by rw [all_int]; simp)]
@[simp] theorem itO_rL (k : Kd) (w : List (List Int)) : itO ⟨k, rL w⟩ = some (w.map wT) := by
  show (if k = .vw ∧ (w.map wT).all T.flat = false then none else some _) = _
  rw [if_neg (by rw [all_wT]; simp)]
theorem m_app {w : List Int} {x : Int} {k : Kd} (h : w.length < sizeLine) : mthC hApp (some ⟨.own, wL w⟩) [⟨k, .int x⟩] = some ⟨.own, wL (w ++ [x])⟩ := by
  show (if ([⟨k, .int x⟩] : List Cell).all okItem then (if (w.map T.int).length < sizeLine then some (w.map T.int ++ [T.int x]) else none).map _ else none) = _
  rw [if_pos (by rfl), List.length_map, if_pos h]
  show some (⟨.own, .lst (w.map T.int ++ [T.int x])⟩ : Cell) = some ⟨.own, .lst ((w ++ [x]).map T.int)⟩
  rw [List.map_append]
  rfl
theorem m_appR {w : List (List Int)} {x : List Int} {k : Kd} (h : w.length < sizeLine) : mthC hApp (some ⟨.own, rL w⟩) [⟨k, wT x⟩] = some ⟨.own, rL (w ++ [x])⟩ := by
  show (if ([⟨k, wT x⟩] : List Cell).all okItem then (if (w.map wT).length < sizeLine then some (w.map wT ++ [wT x]) else none).map _ else none) = _
  rw [if_pos (by rfl), List.length_map, if_pos h]
  show some (⟨.own, .lst (w.map wT ++ [wT x])⟩ : Cell) = some ⟨.own, .lst ((w ++ [x]).map wT)⟩
  rw [List.map_append]
  rfl
theorem m_pop {w : List Int} (h : w ≠ []) : mthC hPop (some ⟨.own, wL w⟩) [] = some ⟨.own, wL w.dropLast⟩ := by
  show (if ([] : List Cell).all okItem then (if w.map T.int = [] then none else some (w.map T.int).dropLast).map _ else none) = _
  rw [if_pos (by rfl), if_neg (by simpa using h)]
  show some (⟨.own, .lst (w.map T.int).dropLast⟩ : Cell) = some ⟨.own, .lst (w.dropLast.map T.int)⟩
  rw [List.map_dropLast]
theorem m_ext {w v : List Int} {k : Kd} (h : w.length + v.length ≤ sizeLine) : mthC hExT (some ⟨.own, wL w⟩) [⟨k, wT v⟩] = some ⟨.own, wL (w ++ v)⟩ := by
  show (if ([⟨k, wT v⟩] : List Cell).all okItem then (if (w.map T.int).length + (v.map T.int).length ≤ sizeLine then some (w.map T.int ++ v.map T.int) else none).map _ else none) = _
  rw [if_pos (by rfl), List.length_map, List.length_map, if_pos h]
  show some (⟨.own, .lst (w.map T.int ++ v.map T.int)⟩ : Cell) = some ⟨.own, .lst ((w ++ v).map T.int)⟩
  rw [List.map_append]
theorem m_ins {w : List Int} {x : Int} {i : Nat} {k k2 : Kd} (h : w.length < sizeLine) (hi : i ≤ w.length) : mthC hIns (some ⟨.own, wL w⟩) [⟨k, .int i⟩, ⟨k2, .int x⟩] = some ⟨.own, wL (w.take i ++ [x] ++ w.drop i)⟩ := by
  have hz := sizeLine_eq
  show (if ([⟨k, .int i⟩, ⟨k2, .int x⟩] : List Cell).all okItem then (if (w.map T.int).all T.flat && T.flat (T.int x) && decide ((w.map T.int).length < sizeLine) && decide (0 ≤ (i : Int)) && decide ((i : Int) < 2 ^ 63) then some ((w.map T.int).take (i : Int).toNat ++ [T.int x] ++ (w.map T.int).drop (i : Int).toNat) else none).map _ else none) = _
  rw [if_pos (by rfl), if_pos]
  · show some (⟨.own, .lst _⟩ : Cell) = some ⟨.own, .lst ((w.take i ++ [x] ++ w.drop i).map T.int)⟩
    rw [Int.toNat_natCast, List.map_append, List.map_append, List.map_take, List.map_drop]
    rfl
  · simp only [all_int, List.length_map, Bool.and_eq_true, decide_eq_true_eq, f_int, Bool.true_and]
    omega
end DL

set_option Elab.async false
set_option linter.all false
set_option maxRecDepth 100000
set_option maxHeartbeats 2000000
namespace DL
open PySem PySem.Spec PyProof.Rows L2

theorem atI_lastR (w : List Int) (x : Int) : atI (w ++ [x]) (-1) = some x := atI_last w x
/-- one letter more on the stack -/
def bodyLow (neg : Ex) : Sx := sIf (bAnd (bVal (xBin (gEqX true) (xName 1) (xLst aNil))) (bVal (xBin (gEqX false) (xBin gSubX (xName 1) (xUn gNeg (xC (.int 1)))) neg))) (sMth 1 hPop aNil) (sMth 1 hApp (aCons (xName 2) aNil))
theorem low_step {neg : Ex} (hneg : ∀ x0 x1 x e, neg [x0, x1, some ⟨.shr, .int x⟩] e = some (⟨.shr, .int (-x)⟩, e)) {x0 : Option Cell} {s : List Int} {x : Int} {e : Option Src} (hs : s.length < sizeLine) :
    bodyLow neg [x0, some ⟨.own, wL s.reverse⟩, some ⟨.shr, .int x⟩] e = some (.nx, [x0, some ⟨.own, wL (FG.st s x).reverse⟩, some ⟨.shr, .int x⟩], e) := by
  unfold bodyLow
  have hz := sizeLine_eq
  cases s with
  | nil => simp [FG.st, hneg, m_app (w := []) (x := x) (k := .shr) (by rw [List.length_nil]; omega)]
  | cons y r =>
    have h1 : (r.reverse ++ [y]).length < sizeLine := by simpa using hs
    by_cases hy : y = -x
    · simp [FG.st, hneg, atI_lastR, hy, m_pop (w := r.reverse ++ [-x]) (by simp)]
    · simp [FG.st, hneg, atI_lastR, hy, m_app (x := x) (k := .shr) h1]
theorem low_loop {neg : Ex} (hneg : ∀ x0 x1 x e, neg [x0, x1, some ⟨.shr, .int x⟩] e = some (⟨.shr, .int (-x)⟩, e)) {x0 : Option Cell} {e : Option Src} : ∀ (w s : List Int) (c : Option Cell), s.length + w.length < sizeLine →
    ∃ c', forL (gN 2) (bodyLow neg) (w.map T.int) [x0, some ⟨.own, wL s.reverse⟩, c] e = some (.nx, [x0, some ⟨.own, wL (FG.act s w).reverse⟩, c'], e)
  | [], s, c, _ => ⟨c, rfl⟩
  | x :: w, s, c, h => by
    have hs : s.length < sizeLine := by simp at h; omega
    have hl := FG.st_length s x
    obtain ⟨c', ih⟩ := low_loop hneg (x0 := x0) (e := e) w (FG.st s x) (some ⟨.shr, .int x⟩) (by simp at h; omega)
    refine ⟨c', ?_⟩
    rw [List.map_cons, forL_cons]
    simp only [nk_int, e_gN, keep_shr, Option.bind_some, List.set_cons_succ, List.set_cons_zero, low_step hneg hs, ih]
    rfl
theorem hneg1 : ∀ x0 x1 x e, xUn gNeg (xName 2) [x0, x1, some ⟨.shr, .int x⟩] e = some (⟨.shr, .int (-x)⟩, e) := fun x0 x1 x e => by simp
theorem hneg2 : ∀ x0 x1 x e, xBin DL.gSub (xC (.int 0)) (xName 2) [x0, x1, some ⟨.shr, .int x⟩] e = some (⟨.shr, .int (-x)⟩, e) := fun x0 x1 x e => by simp
theorem low_body {neg : Ex} (hneg : ∀ x0 x1 x e, neg [x0, x1, some ⟨.shr, .int x⟩] e = some (⟨.shr, .int (-x)⟩, e)) {w : List Int} {t : T} (ht : itT ⟨.shr, t⟩ = some (w.map T.int)) (hf : nk .shr t = ⟨.shr, t⟩) (h : w.length < sizeLine) :
    runN ["letters", "found", "letter"] (sSeq (sSet 1 (xLst aNil)) (sSeq (sFor (iSeq (xName 0)) (gN 2) (bodyLow neg)) (sRet (xCall gTuple (aCons (xName 1) aNil))))) [t] = some (true, wT (FG.low w)) := by
  obtain ⟨c', hl⟩ := low_loop hneg (x0 := some ⟨.shr, t⟩) (e := none) w [] none (by simpa using h)
  have e0 : slots0 ["letters", "found", "letter"] [t] = [some ⟨.shr, t⟩, none, none] := rfl
  unfold runN
  rw [e0]
  have e1 : (⟨.own, .lst []⟩ : Cell) = ⟨.own, wL []⟩ := rfl
  simp only [List.reverse_nil] at hl
  simp [hf, ht, e1, hl, endN, FG.low]
theorem R_word_low {C : Addr} {w : List Int} (h : w.length < sizeLine) : g_word_low C [wT w] = some (true, wT (FG.low w)) := low_body hneg1 rfl rfl h
theorem R_law_word_low {C : Addr} {w : List Int} (h : w.length < sizeLine) : g__law_word_low C [wT w] = some (true, wT (FG.low w)) := low_body hneg2 rfl rfl h
theorem R_law_word_lowL {C : Addr} {w : List Int} (h : w.length < sizeLine) : g__law_word_low C [wL w] = some (true, wT (FG.low w)) := low_body hneg2 rfl rfl h
/-! ### rows made in one line -/
theorem jl_all {cs : List Cell} (h : ∀ c ∈ cs, c.t.flat = true) : jl cs = .own := by
  unfold jl
  rw [if_pos (List.all_eq_true.mpr fun c m => by rw [h c m]; rfl)]
theorem comp_gen {α β : Type} {E : α → T} {O : β → T} {G : α → β} {P : α → Bool} {g : Gx} {c : Bx} {f : Ex} {Sw : Slots} {e : Option Src} {Sx : α → Slots} : ∀ (xs : List α), (∀ x ∈ xs, g (nk .shr (E x)) Sw e = some (Sx x, e)) → (∀ x ∈ xs, c (Sx x) e = some (P x, e)) →
    (∀ x ∈ xs, P x = true → f (Sx x) e = some (⟨.shr, O (G x)⟩, e)) → ∀ acc : List Cell, acc.length + xs.length ≤ sizeLine → compL g c f Sw (xs.map E) e acc = some (acc ++ ((xs.filter P).map fun x => (⟨.shr, O (G x)⟩ : Cell)), e)
  | [], _, _, _, acc, _ => by rw [List.map_nil, compL]; simp
  | x :: xs, h1, h2, h3, acc, hl => by
    have ih := fun acc hl => comp_gen (O := O) (G := G) xs (fun y m => h1 y (List.mem_cons_of_mem _ m)) (fun y m => h2 y (List.mem_cons_of_mem _ m)) (fun y m => h3 y (List.mem_cons_of_mem _ m)) acc hl
    rw [List.length_cons] at hl
    rw [List.map_cons, compL, h1 x List.mem_cons_self]
    simp only [Option.bind_eq_bind, Option.bind_some, h2 x List.mem_cons_self]
    cases hp : P x with
    | true =>
      rw [if_pos rfl, h3 x List.mem_cons_self hp]
      simp only [Option.bind_some]
      rw [if_pos (by omega), ih _ (by rw [List.length_append, List.length_singleton]; omega), List.filter_cons, if_pos hp, List.map_cons, List.append_assoc]
      rfl
    | false =>
      rw [if_neg (by decide), ih _ (by omega), List.filter_cons, if_neg (by rw [hp]; decide)]
theorem lc_gen {α β : Type} {E : α → T} {O : β → T} (hO : ∀ b, (O b).flat = true) {G : α → β} {P : α → Bool} {it : Ix} {g : Gx} {c : Bx} {f : Ex} {S : Slots} {vs : List Nat} {e : Option Src} {Sx : α → Slots} {xs : List α} (h0 : it S e = some (xs.map E, e)) (h1 : ∀ x ∈ xs, g (nk .shr (E x)) (wipeS S vs) e = some (Sx x, e)) (h2 : ∀ x ∈ xs, c (Sx x) e = some (P x, e))
    (h3 : ∀ x ∈ xs, P x = true → f (Sx x) e = some (⟨.shr, O (G x)⟩, e)) (hl : xs.length ≤ sizeLine) : xLc it g c f vs S e = some (⟨.own, .lst ((xs.filter P).map fun x => O (G x))⟩, e) := by
  rw [e_lc, h0]
  simp only [Option.bind_some]
  rw [comp_gen xs h1 h2 h3 [] (by simpa using hl)]
  simp only [Option.bind_some, List.nil_append]
  rw [jl_all (fun c m => by
    obtain ⟨x, _, rfl⟩ := List.mem_map.mp m
    exact hO _)]
  congr 3
  unfold ts
  rw [List.map_map]
  rfl
theorem filter_yes {α : Type} (xs : List α) : xs.filter (fun _ => true) = xs := List.filter_eq_self.mpr fun _ _ => rfl
/-- no test; whole numbers -/
theorem lc_int {α : Type} {E : α → T} {G : α → Int} {it : Ix} {g : Gx} {f : Ex} {S : Slots} {vs : List Nat} {e : Option Src} {Sx : α → Slots} {xs : List α} (h0 : it S e = some (xs.map E, e)) (h1 : ∀ x ∈ xs, g (nk .shr (E x)) (wipeS S vs) e = some (Sx x, e)) (h3 : ∀ x ∈ xs, f (Sx x) e = some (⟨.shr, .int (G x)⟩, e)) (hl : xs.length ≤ sizeLine) :
    xLc it g bYes f vs S e = some (⟨.own, wL (xs.map G)⟩, e) := by
  rw [lc_gen (O := T.int) (G := G) (P := fun _ => true) (fun _ => rfl) h0 h1 (fun _ _ => rfl) (fun x m _ => h3 x m) hl]
  rw [filter_yes]
  show some ((⟨.own, .lst _⟩ : Cell), e) = some (⟨.own, .lst ((xs.map G).map T.int)⟩, e)
  rw [List.map_map]
  rfl
theorem lc_w {α : Type} {E : α → T} {G : α → List Int} {it : Ix} {g : Gx} {f : Ex} {S : Slots} {vs : List Nat} {e : Option Src} {Sx : α → Slots} {xs : List α} (h0 : it S e = some (xs.map E, e)) (h1 : ∀ x ∈ xs, g (nk .shr (E x)) (wipeS S vs) e = some (Sx x, e)) (h3 : ∀ x ∈ xs, f (Sx x) e = some (⟨.shr, wT (G x)⟩, e)) (hl : xs.length ≤ sizeLine) :
    xLc it g bYes f vs S e = some (⟨.own, rL (xs.map G)⟩, e) := by
  rw [lc_gen (O := wT) (G := G) (P := fun _ => true) (fun _ => rfl) h0 h1 (fun _ _ => rfl) (fun x m _ => h3 x m) hl]
  rw [filter_yes]
  show some ((⟨.own, .lst _⟩ : Cell), e) = some (⟨.own, .lst ((xs.map G).map wT)⟩, e)
  rw [List.map_map]
  rfl
@[simp] theorem ar1 (g : GN) (a : T) : gArity 1 g [a] = g [a] := (rfl)
@[simp] theorem ar2 (g : GN) (a b : T) : gArity 2 g [a, b] = g [a, b] := (rfl)
@[simp] theorem ar3 (g : GN) (a b c : T) : gArity 3 g [a, b, c] = g [a, b, c] := (rfl)
@[simp] theorem wipe_nil (S : Slots) : wipeS S [] = S := (rfl)
@[simp] theorem wipe_cons (S : Slots) (v : Nat) (vs : List Nat) : wipeS S (v :: vs) = (wipeS S vs).set v none := (rfl)
theorem und_eq (w : List Int) : FG.und w = w.reverse.map fun x => -x := by
  unfold FG.und
  rw [List.map_reverse]
theorem R_word_undone {C : Addr} {w : List Int} (h : w.length < sizeLine) : g_word_undone C [wT w] = some (true, wT (FG.und w)) := by
  have e0 : slots0 ["word", "letter"] [wT w] = [some ⟨.shr, wT w⟩, none] := rfl
  unfold g_word_undone runN b_word_undone
  rw [e0]
  have := lc_int (it := iSeqO (xRev (xName 0))) (g := gN 1) (f := xUn gNeg (xName 1)) (S := [some ⟨.shr, wT w⟩, none]) (vs := [1]) (e := none) (E := T.int) (G := fun x => -x) (Sx := fun x => [some ⟨.shr, wT w⟩, some ⟨.shr, .int x⟩]) (xs := w.reverse) (by simp) (fun x _ => by simp) (fun x _ => by simp) (by rw [List.length_reverse]; omega)
  rw [und_eq]
  simp only [e_ret, e_call, e_acons, this]
  simp [endN]
theorem R_law_undone {C : Addr} {w : List Int} (h : w.length < sizeLine) : g__law_undone C [wT w] = some (true, wT (FG.und w)) := by
  have e0 : slots0 ["word", "letter"] [wT w] = [some ⟨.shr, wT w⟩, none] := rfl
  unfold g__law_undone runN b__law_undone
  rw [e0]
  have := lc_int (it := iSeqO (xRev (xName 0))) (g := gN 1) (f := xBin DL.gSub (xC (.int 0)) (xName 1)) (S := [some ⟨.shr, wT w⟩, none]) (vs := [1]) (e := none) (E := T.int) (G := fun x => -x) (Sx := fun x => [some ⟨.shr, wT w⟩, some ⟨.shr, .int x⟩]) (xs := w.reverse) (by simp) (fun x _ => by simp) (fun x _ => by simp) (by rw [List.length_reverse]; omega)
  rw [und_eq]
  simp only [e_ret, e_call, e_acons, this]
  simp [endN]
theorem R_not_long {C : Addr} {w : List Int} (h : w.length ≤ 400) : g_not_long C [wT w] = some (true, wT w) := by
  have e0 : slots0 ["word"] [wT w] = [some ⟨.shr, wT w⟩] := rfl
  unfold g_not_long runN b_not_long
  rw [e0]
  have : ¬ (400 : Int) < (w.length : Int) := by omega
  simp [this, e_retN, endN]
end DL

set_option Elab.async false
set_option linter.all false
set_option maxRecDepth 100000
set_option maxHeartbeats 2000000
namespace DL
open PySem PySem.Spec PyProof.Rows L2
open FG (sub hom Lets flat low und)

/-- a row of words, by what is read of it -/
structure RowW (t : T) (ws : List (List Int)) : Prop where
  at_ : ∀ i, gSubX t (.int i) = (atI ws i).map fun x => (false, wT x)
  nk : nk .shr t = ⟨.shr, t⟩
theorem row_rT (ws : List (List Int)) : RowW (rT ws) ws := ⟨g_sub_rT ws, rfl⟩
theorem row_rL (ws : List (List Int)) : RowW (rL ws) ws := ⟨g_sub_rL ws, rfl⟩
theorem atI_sub {ws : List (List Int)} {i : Int} (h : 0 ≤ i ∧ i < ws.length) : atI ws i = some (ws.getD i.toNat []) := by
  have : i = (i.toNat : Int) := by omega
  rw [this]
  rw [atI_nat (j := i.toNat) (v := ws.getD i.toNat [])]
  · congr 2
  · rw [List.getD_eq_getElem?_getD, List.getElem?_eq_getElem (by omega)]
    rfl
/-- the letter's word, as both texts tell it -/
theorem sub_pos {ws : List (List Int)} {l : Int} (h : l ≠ 0 ∧ -(ws.length : Int) ≤ l ∧ l ≤ ws.length) (hp : 0 < l) : atI ws (l - 1) = some (sub ws l) := by
  rw [atI_sub (by omega), sub, if_pos hp]
theorem sub_neg {ws : List (List Int)} {l : Int} (h : l ≠ 0 ∧ -(ws.length : Int) ≤ l ∧ l ≤ ws.length) (hp : ¬ 0 < l) : atI ws (-l - 1) = some (und (sub ws l)) := by
  rw [atI_sub (by omega), sub, if_neg hp, FG.und_und]
theorem put_loop {C : Addr} {t x1 : T} {ws : List (List Int)} (ht : RowW t ws) (hlen : ∀ w ∈ ws, w.length < sizeLine) : ∀ (w acc : List Int) (c : Option Cell), Lets ws.length w → acc.length + (flat (sub ws) w).length ≤ sizeLine →
    ∃ c', forL (gN 3) (sMth 2 hExT (aCons (xIf (bVal (xBin gGt (xName 3) (xC (.int 0)))) (xBin gSubX (xName 0) (xBin DL.gSub (xName 3) (xC (.int 1)))) (xCall (gArity 1 (g_word_undone C)) (aCons (xBin gSubX (xName 0) (xBin DL.gSub (xUn gNeg (xName 3)) (xC (.int 1)))) aNil))) aNil)) (w.map T.int)
      [some ⟨.shr, t⟩, some ⟨.shr, x1⟩, some ⟨.own, wL acc⟩, c] none = some (.nx, [some ⟨.shr, t⟩, some ⟨.shr, x1⟩, some ⟨.own, wL (acc ++ flat (sub ws) w)⟩, c'], none)
  | [], acc, c, _, _ => ⟨c, by simp [FG.flat_nil]⟩
  | x :: w, acc, c, hw, hl => by
    obtain ⟨hx, hw'⟩ := hw.cons
    rw [FG.flat_cons, List.length_append] at hl
    obtain ⟨c', ih⟩ := put_loop (C := C) (x1 := x1) ht hlen w (acc ++ sub ws x) (some ⟨.shr, .int x⟩) hw' (by rw [List.length_append]; omega)
    refine ⟨c', ?_⟩
    rw [List.map_cons, forL_cons]
    have hext : ∀ k, mthC hExT (some ⟨.own, wL acc⟩) [⟨k, wT (sub ws x)⟩] = some ⟨.own, wL (acc ++ sub ws x)⟩ := fun k => m_ext (by omega)
    by_cases hp : 0 < x
    · simp only [nk_int, e_gN, keep_shr, Option.bind_some, List.set_cons_succ, List.set_cons_zero, e_mth, e_acons, e_anil, e_xif, e_bval, e_bin, e_name, List.getElem?_cons_succ, List.getElem?_cons_zero, e_c, g_gt, kOf_bl, hp, decide_true, if_true, ht.nk, g_sub, kOf_int, ht.at_, sub_pos hx hp, Option.map_some, kOf_wT, hext, ih, FG.flat_cons, List.append_assoc]
    · have hu : und (und (sub ws x)) = sub ws x := FG.und_und _
      have hlu : (und (sub ws x)).length < sizeLine := by
        have := sub_neg hx hp
        have hm := atI_get this
        obtain ⟨j, _, hj, _⟩ := hm
        exact hlen _ (List.mem_of_getElem? hj)
      simp only [nk_int, e_gN, keep_shr, Option.bind_some, List.set_cons_succ, List.set_cons_zero, e_mth, e_acons, e_anil, e_xif, e_bval, e_bin, e_un, g_neg, e_call, e_name, List.getElem?_cons_succ, List.getElem?_cons_zero, e_c, g_gt, kOf_bl, hp, decide_false, if_false, ht.nk, g_sub, kOf_int, ht.at_, sub_neg hx hp, Option.map_some, kOf_wT, ts_cons, ts_nil, ar1, R_word_undone hlu, hu, hext, ih, FG.flat_cons, List.append_assoc, Bool.false_eq_true]
theorem R_letters_put {C : Addr} {t : T} {ws : List (List Int)} {w : List Int} (ht : RowW t ws) (hlen : ∀ w ∈ ws, w.length < sizeLine) (hw : Lets ws.length w) (hf : (flat (sub ws) w).length < sizeLine) (h4 : (hom ws w).length ≤ 400) :
    g_letters_put C [t, wT w] = some (true, wT (hom ws w)) := by
  have e0 : slots0 ["words", "word", "found", "letter"] [t, wT w] = [some ⟨.shr, t⟩, some ⟨.shr, wT w⟩, none, none] := rfl
  obtain ⟨c', hl⟩ := put_loop (C := C) (x1 := wT w) ht hlen w [] none hw (by simpa using Nat.le_of_lt hf)
  have e1 : (⟨.own, .lst []⟩ : Cell) = ⟨.own, wL []⟩ := rfl
  unfold g_letters_put runN b_letters_put
  rw [e0]
  rw [List.nil_append] at hl
  have h5 : g_not_long C [wT (low (flat (sub ws) w))] = some (true, wT (hom ws w)) := R_not_long h4
  simp [e1, hl, R_word_low hf, h5, endN]
theorem led_loop {C : Addr} {t x1 : T} {ws : List (List Int)} (ht : RowW t ws) (hlen : ∀ w ∈ ws, w.length ≤ 1000000) : ∀ (w acc : List Int) (c : Option Cell), Lets ws.length w → acc.length + (flat (sub ws) w).length ≤ 1000000 →
    ∃ c', forL (gN 3) (sSet 2 (xCall (gArity 1 (g__law_word_low C)) (aCons (xBin gAdd (xName 2) (xIf (bVal (xBin gGt (xName 3) (xC (.int 0)))) (xBin gSubX (xName 0) (xBin DL.gSub (xName 3) (xC (.int 1)))) (xCall (gArity 1 (g__law_undone C)) (aCons (xBin gSubX (xName 0) (xBin DL.gSub (xBin DL.gSub (xC (.int 0)) (xName 3)) (xC (.int 1)))) aNil)))) aNil))) (w.map T.int)
      [some ⟨.shr, t⟩, some ⟨.shr, x1⟩, some ⟨.shr, wT (low acc)⟩, c] none = some (.nx, [some ⟨.shr, t⟩, some ⟨.shr, x1⟩, some ⟨.shr, wT (low (acc ++ flat (sub ws) w))⟩, c'], none)
  | [], acc, c, _, _ => ⟨c, by simp [FG.flat_nil]⟩
  | x :: w, acc, c, hw, hl => by
    have hz := sizeLine_eq
    obtain ⟨hx, hw'⟩ := hw.cons
    rw [FG.flat_cons, List.length_append] at hl
    have hll := FG.low_length acc
    obtain ⟨c', ih⟩ := led_loop (C := C) (x1 := x1) ht hlen w (acc ++ sub ws x) (some ⟨.shr, .int x⟩) hw' (by rw [List.length_append]; omega)
    refine ⟨c', ?_⟩
    rw [List.map_cons, forL_cons]
    have hadd : gAdd (wT (low acc)) (wT (sub ws x)) = some (true, wT (low acc ++ sub ws x)) := g_add_wT (by omega)
    have hlow : g__law_word_low C [wT (low acc ++ sub ws x)] = some (true, wT (low (acc ++ sub ws x))) := by
      rw [R_law_word_low (by rw [List.length_append]; omega), FG.low_low_app]
    by_cases hp : 0 < x
    · simp only [nk_int, e_gN, keep_shr, Option.bind_some, List.set_cons_succ, List.set_cons_zero, e_set, e_acons, e_anil, e_xif, e_bval, e_bin, e_name, List.getElem?_cons_succ, List.getElem?_cons_zero, e_c, g_gt, kOf_bl, hp, decide_true, if_true, ht.nk, g_sub, kOf_int, ht.at_, sub_pos hx hp, Option.map_some, kOf_wT, e_call, nk_wT, hadd, ts_cons, ts_nil, ar1, hlow, ih, FG.flat_cons, List.append_assoc]
    · have hu : und (und (sub ws x)) = sub ws x := FG.und_und _
      have hlu : (und (sub ws x)).length < sizeLine := by
        have := sub_neg hx hp
        have hm := atI_get this
        obtain ⟨j, _, hj, _⟩ := hm
        have := hlen _ (List.mem_of_getElem? hj)
        omega
      have hzx : (0 : Int) - x = -x := by omega
      simp only [nk_int, e_gN, keep_shr, Option.bind_some, List.set_cons_succ, List.set_cons_zero, e_set, e_acons, e_anil, e_xif, e_bval, e_bin, e_call, e_name, List.getElem?_cons_succ, List.getElem?_cons_zero, e_c, g_gt, kOf_bl, hp, decide_false, if_false, ht.nk, g_sub, kOf_int, hzx, ht.at_, sub_neg hx hp, Option.map_some, kOf_wT, nk_wT, ts_cons, ts_nil, ar1, R_law_undone hlu, hu, hadd, hlow, ih, FG.flat_cons, List.append_assoc, Bool.false_eq_true]
theorem R_law_led {C : Addr} {t : T} {ws : List (List Int)} {w : List Int} (ht : RowW t ws) (hlen : ∀ w ∈ ws, w.length ≤ 1000000) (hw : Lets ws.length w) (hf : (flat (sub ws) w).length ≤ 1000000) :
    g__law_led C [t, wT w] = some (true, wT (hom ws w)) := by
  have e0 : slots0 ["words", "word", "found", "letter"] [t, wT w] = [some ⟨.shr, t⟩, some ⟨.shr, wT w⟩, none, none] := rfl
  obtain ⟨c', hl⟩ := led_loop (C := C) (x1 := wT w) ht hlen w [] none hw (by simpa using hf)
  have e1 : gTup [] = some (true, wT []) := by
    show (if ([] : List T).all T.flat && decide (([] : List T).length ≤ sizeLine) then some (true, T.tup []) else none) = _
    rw [if_pos (by simp)]
    rfl
  unfold g__law_led runN b__law_led
  rw [e0]
  rw [List.nil_append] at hl
  have e2 : low [] = [] := rfl
  rw [e2] at hl
  simp [e1, hl, e_retN, endN]
  rfl
/-! ### rings -/
theorem sIx_some_nat (n d k : Nat) : HT.sIx n d (some (k : Int)) = min k n := HT.sIx_nat n d k
theorem cut_from (w : List Int) (k : Nat) (h : k ≤ w.length) : cutT w (some (k : Int)) none = w.drop k := by
  unfold cutT
  rw [sIx_some_nat, HT.sIx_none, Nat.min_eq_left h]
  rw [List.take_of_length_le (by rw [List.length_drop]; omega)]
theorem cut_to (w : List Int) (k : Nat) (h : k ≤ w.length) : cutT w none (some (k : Int)) = w.take k := by
  unfold cutT
  rw [sIx_some_nat, HT.sIx_none, Nat.min_eq_left h]
  simp
theorem cut_in (x y : Int) (m : List Int) : cutT (x :: m ++ [y]) (some 1) (some (-1)) = m := by
  unfold cutT
  have h1 : HT.sIx (x :: m ++ [y]).length 0 (some 1) = 1 := by
    have := sIx_some_nat (x :: m ++ [y]).length 0 1
    rw [show ((1 : Nat) : Int) = 1 from rfl] at this
    rw [this]
    simp
  have h2 : HT.sIx (x :: m ++ [y]).length (x :: m ++ [y]).length (some (-1)) = m.length + 1 := by
    show (if (-1 : Int) < 0 then ((-1 : Int) + ((x :: m ++ [y]).length : Int)).toNat else min ((-1 : Int)).toNat (x :: m ++ [y]).length) = m.length + 1
    rw [if_pos (by decide)]
    simp only [List.length_append, List.length_cons, List.length_nil]
    omega
  rw [h1, h2]
  simp
def ringC : Bx := bAnd (bVal (xBin gGt (xCall gLen (aCons (xName 1) aNil)) (xC (.int 1)))) (bVal (xBin (gEqX false) (xBin gSubX (xName 1) (xC (.int 0))) (xBin DL.gSub (xC (.int 0)) (xBin gSubX (xName 1) (xUn gNeg (xC (.int 1)))))))
def ringB : Sx := sSet 1 (xSl gSl (xName 1) (oSome (xC (.int 1))) (oSome (xUn gNeg (xC (.int 1)))))
theorem atI_0 (x : Int) (w : List Int) : atI (x :: w) 0 = some x := atI_nat (j := 0) rfl
theorem ring_loop {x0 c2 : Option Cell} : ∀ (k : Nat) (w : List Int), w.length < k → whileN ringC ringB k [x0, some ⟨.shr, wT w⟩, c2] none = some (.nx, [x0, some ⟨.shr, wT (FG.core w)⟩, c2], none) := by
  intro k
  induction k with
  | zero => intro w h; omega
  | succ k ih =>
    intro w h
    rw [whileN_succ]
    match w, h with
    | [], h => simp [ringC, FG.core_nil]
    | [x], h => simp [ringC, FG.core_one]
    | x :: y :: r, h =>
      obtain ⟨i, z, hi⟩ := FG.split_last (x := y) (t := r)
      have hg : (y :: r).getLast (by simp) = z := by simp [hi]
      have hd : (y :: r).dropLast = i := by rw [hi, List.dropLast_concat]
      have hlast : atI (x :: y :: r) (-1) = some z := by
        rw [hi]
        exact atI_last (x :: i) z
      have hlen : (1 : Int) < ((r.length : Int) + 1 + 1) := by omega
      by_cases hxz : x = -z
      · have hc : FG.core (x :: y :: r) = FG.core i := by rw [FG.core, if_pos (by rw [hg]; exact hxz), hd]
        have hcut : cutT (x :: y :: r) (some 1) (some (-1)) = i := by
          rw [hi]
          exact cut_in x z i
        have hil : i.length < k := by
          have := congrArg List.length hi
          simp at this h
          omega
        have := ih i hil
        subst hxz
        simp [ringC, ringB, atI_0, hlast, hlen, hcut, hc] at this ⊢
        exact this
      · have hc : FG.core (x :: y :: r) = x :: y :: r := by rw [FG.core, if_neg (by rw [hg]; exact hxz)]
        simp [ringC, ringB, atI_0, hlast, hlen, hxz, hc]
end DL

set_option Elab.async false
set_option linter.all false
set_option maxRecDepth 100000
set_option maxHeartbeats 2000000
namespace DL
open PySem PySem.Spec PyProof.Rows L2
open FG (sub hom Lets flat low und ring rots rmin core)

theorem rngT_map (lo : Int) (n : Nat) : rngT lo n = (List.range n).map fun (i : Nat) => T.int (lo + i) := rfl
theorem tup0 : gTup [] = some (true, wT []) := by
  show (if ([] : List T).all T.flat && decide (([] : List T).length ≤ sizeLine) then some (true, T.tup []) else none) = _
  rw [if_pos (by simp)]
  rfl
theorem tupI (a : Int) : gTup [.int a] = some (true, wT [a]) := by
  show (if [T.int a].all T.flat && decide ([T.int a].length ≤ sizeLine) then some (true, T.tup [.int a]) else none) = _
  rw [if_pos (by rw [sizeLine_eq]; rfl)]
  rfl
theorem tupN {us : List T} (h1 : us.all T.flat = true) (h2 : us.length ≤ 1000) : gTup us = some (true, .tup us) := by
  show (if us.all T.flat && decide (us.length ≤ sizeLine) then some (true, T.tup us) else none) = _
  rw [if_pos (by rw [h1, sizeLine_eq]; simp; omega)]
theorem ring_min {C : Addr} {x0 c2 : Option Cell} {w : List Int} (h : w ≠ []) (hl : w.length ≤ 1000) :
    xCall gMinT (aCons (xLc (iR1 (aCons (xCall gLen (aCons (xName 1) aNil)) aNil)) (gN 2) bYes (xBin gAdd (xSl gSl (xName 1) (oSome (xName 2)) oNone) (xSl gSl (xName 1) oNone (oSome (xName 2)))) [2]) aNil) [x0, some ⟨.shr, wT w⟩, c2] none = some (⟨.shr, wT (rmin w)⟩, none) := by
  have hz := sizeLine_eq
  have := lc_w (it := iR1 (aCons (xCall gLen (aCons (xName 1) aNil)) aNil)) (g := gN 2) (f := xBin gAdd (xSl gSl (xName 1) (oSome (xName 2)) oNone) (xSl gSl (xName 1) oNone (oSome (xName 2)))) (S := [x0, some ⟨.shr, wT w⟩, c2]) (vs := [2]) (e := none)
    (E := fun (i : Nat) => T.int (0 + i)) (G := fun k => w.drop k ++ w.take k) (Sx := fun k => [x0, some ⟨.shr, wT w⟩, some ⟨.shr, .int (k : Int)⟩]) (xs := List.range w.length)
    (it_r1 (k := .shr) (j := (w.length : Int)) (by simp) rfl (by omega)) (fun k _ => by simp) (fun k mk => by
      have hk := List.mem_range.mp mk
      have ha : gAdd (wT (w.drop k)) (wT (w.take k)) = some (true, wT (w.drop k ++ w.take k)) := g_add_wT (by rw [List.length_drop, List.length_take]; omega)
      simp [cut_from w k (by omega), cut_to w k (by omega), ha]) (by rw [List.length_range]; omega)
  simp only [e_call, e_acons, e_anil, this, Option.bind_some, ts_cons, ts_nil]
  have hrots : (List.range w.length).map (fun k => w.drop k ++ w.take k) = rots w := rfl
  rw [hrots]
  unfold rmin
  cases hc : rots w with
  | nil =>
    have := congrArg List.length hc
    unfold rots at this
    rw [List.length_map, List.length_range] at this
    exact absurd (List.eq_nil_of_length_eq_zero this) h
  | cons x xs =>
    rw [g_min, minL_eq]
    rfl
theorem R_law_ring {C : Addr} {t : T} {w : List Int} (ht : g__law_word_low C [t] = some (true, wT (low w))) (hk : nk .shr t = ⟨.shr, t⟩) (h : w.length ≤ 990) : g__law_ring C [t] = some (true, wT (ring w)) := by
  have e0 : slots0 ["word", "left", "k"] [t] = [some ⟨.shr, t⟩, none, none] := rfl
  have hl := FG.low_length w
  have hloop := ring_loop (x0 := some ⟨.shr, t⟩) (c2 := none) 1000 (low w) (by omega)
  unfold g__law_ring runN b__law_ring
  rw [e0]
  unfold ringC ringB at hloop
  simp only [e_seq, e_set, e_call, e_acons, e_anil, e_name, List.getElem?_cons_zero, hk, Option.bind_some, ts_cons, ts_nil, ar1, ht, kOf_wT, keep_shr, List.set_cons_succ, List.set_cons_zero, e_while, hloop]
  by_cases hc : core (low w) = []
  · simp [hc, endN, ring, FG.rmin_nil, tup0]
  · have hcl : (core (low w)).length ≤ 1000 := by
      obtain ⟨u, hu⟩ := FG.core_spec _ (low w) (Nat.le_refl _)
      have := congrArg List.length hu
      simp only [List.length_append] at this
      omega
    have := ring_min (C := C) (x0 := some ⟨.shr, t⟩) (c2 := none) hc hcl
    have hcond : bVal (xBin (gEqX true) (xName 1) (xCall gTup aNil)) [some ⟨.shr, t⟩, some ⟨.shr, wT (core (low w))⟩, none] none = some (true, none) := by simp [hc, tup0]
    rw [e_ret, e_xif, hcond, Option.bind_some, if_pos rfl, this]
    simp [endN, ring]
theorem R_law_ringT {C : Addr} {w : List Int} (h : w.length ≤ 990) : g__law_ring C [wT w] = some (true, wT (ring w)) := R_law_ring (R_law_word_low (by rw [sizeLine_eq]; omega)) rfl h
theorem R_law_ringL {C : Addr} {w : List Int} (h : w.length ≤ 990) : g__law_ring C [wL w] = some (true, wT (ring w)) := R_law_ring (R_law_word_lowL (by rw [sizeLine_eq]; omega)) rfl h
end DL

set_option Elab.async false
set_option linter.all false
set_option maxRecDepth 100000
set_option maxHeartbeats 2000000
namespace DL
open PySem PySem.Spec PyProof.Rows L2
open FG (sub hom Lets flat low und ring rots rmin core)

/-! ### dicts keyed by whole numbers -/
abbrev kI (M : List Int) : List Key := M.map Sum.inl
theorem putDK_new : ∀ (M : List Int) (x : Int), x ∉ M → putDK (.inl x) (kI M) = kI (M ++ [x])
  | [], _, _ => rfl
  | y :: M, x, h => by
    have n : (Sum.inl y : Key) ≠ .inl x := fun z => h (by cases z; simp)
    have ih := putDK_new M x fun m => h (List.mem_cons_of_mem _ m)
    show (if (Sum.inl y : Key) = .inl x then _ else _) = _
    rw [if_neg n]
    show (Sum.inl y : Key) :: putDK (.inl x) (kI M) = _
    rw [ih]
    rfl
theorem putDT_new (u : T) : ∀ (M : List Int) (us : List T) (x : Int), M.length = us.length → x ∉ M → putDT (.inl x) u (kI M) us = us ++ [u]
  | [], [], _, _, _ => rfl
  | [], _ :: _, _, h, _ => by simp at h
  | _ :: _, [], _, h, _ => by simp at h
  | y :: M, v :: us, x, hl, h => by
    have n : (Sum.inl y : Key) ≠ .inl x := fun z => h (by cases z; simp)
    have ih := putDT_new u M us x (by simpa using hl) fun m => h (List.mem_cons_of_mem _ m)
    show (if (Sum.inl y : Key) = .inl x then _ else _) = _
    rw [if_neg n]
    show v :: putDT (.inl x) u (kI M) us = _
    rw [ih]
    rfl
theorem valT_some (u : T) : ∀ (M : List Int) (x : Int), (valT (kI M) (M.map fun _ => u) (.inl x)).isSome = decide (x ∈ M)
  | [], x => by simp [valT]
  | y :: M, x => by
    show (if (Sum.inl y : Key) = .inl x then some u else valT (kI M) (M.map fun _ => u) (.inl x)).isSome = _
    by_cases e : y = x
    · subst e
      simp
    · have n : (Sum.inl y : Key) ≠ .inl x := fun z => e (by cases z; rfl)
      rw [if_neg n, valT_some u M x]
      have : ¬ x = y := fun z => e z.symm
      simp [this]
theorem mergeT_nd (f : Int → T) : ∀ (M N : List Int) (us : List T), (N ++ M).Nodup → N.length = us.length → (M.map fun x => ((Sum.inl x : Key), f x)).foldl (fun acc kt => (putDK kt.1 acc.1, putDT kt.1 kt.2 acc.1 acc.2)) (kI N, us) = (kI (N ++ M), us ++ M.map f)
  | [], N, us, _, _ => by simp
  | x :: M, N, us, hn, hl => by
    have nx : x ∉ N := fun m => (List.nodup_append.mp hn).2.2 _ m x (by simp) rfl
    rw [List.map_cons, List.foldl_cons]
    dsimp only
    rw [putDK_new N x nx, putDT_new (f x) N us x hl nx, mergeT_nd f M (N ++ [x]) (us ++ [f x]) (by simpa using hn) (by simp [hl])]
    simp
theorem enT_map (us : List T) : enT us = us.zipIdx.map fun z => .tup [.int (z.2 : Nat), z.1] := by
  unfold enT
  rw [List.mapIdx_eq_zipIdx_map]
def atD (p : List Int) : T := .dct (kI p) (p.map fun x => .int (p.idxOf x : Nat))
def metD (M : List Int) : T := .dct (kI M) (M.map fun _ => T.bl true)
@[simp] theorem nk_atD (k : Kd) (p : List Int) : nk k (atD p) = ⟨k, atD p⟩ := (rfl)
@[simp] theorem nk_metD (k : Kd) (p : List Int) : nk k (metD p) = ⟨k, metD p⟩ := (rfl)
@[simp] theorem keep_atD (p : List Int) : keep ⟨.own, atD p⟩ = some ⟨.own, atD p⟩ := (rfl)
@[simp] theorem keep_metD (p : List Int) : keep ⟨.own, metD p⟩ = some ⟨.own, metD p⟩ := (rfl)
/-- the places of a plate's ends -/
theorem g_dict_at {p : List Int} (hn : p.Nodup) : gDict [.lst (p.map fun x => T.tup [.int x, .int (p.idxOf x : Nat)])] = some (true, atD p) := by
  have e1 : (p.map fun x => T.tup [.int x, .int (p.idxOf x : Nat)]).mapM T.pair? = some (p.map fun x => ((Sum.inl x : Key), T.int (p.idxOf x : Nat))) := by
    have h : ∀ q : List Int, (q.map fun x => T.tup [.int x, .int (p.idxOf x : Nat)]).mapM T.pair? = some (q.map fun x => ((Sum.inl x : Key), T.int (p.idxOf x : Nat))) := by
      intro q
      induction q with
      | nil => rfl
      | cons x q ih => rw [List.map_cons, List.mapM_cons, ih]; rfl
    exact h p
  show ((p.map fun x => T.tup [.int x, .int (p.idxOf x : Nat)]).mapM T.pair?).bind _ = _
  rw [e1, Option.bind_some, if_pos (by rw [List.all_eq_true]; intro z m; obtain ⟨x, _, rfl⟩ := List.mem_map.mp m; rfl)]
  have := mergeT_nd (fun x => T.int (p.idxOf x : Nat)) p [] [] (by simpa using hn) rfl
  have e2 : mergeT (p.map fun x => ((Sum.inl x : Key), T.int (p.idxOf x : Nat))) = (kI p, p.map fun x => T.int (p.idxOf x : Nat)) := this
  rw [e2]
  rfl
theorem valT_at {p : List Int} {x : Int} (h : x ∈ p) : valT (kI p) (p.map fun x => .int (p.idxOf x : Nat)) (.inl x) = some (.int (p.idxOf x : Nat)) := by
  have h2 : ∀ q : List Int, x ∈ q → valT (kI q) (q.map fun x => T.int (p.idxOf x : Nat)) (.inl x) = some (.int (p.idxOf x : Nat)) := by
    intro q
    induction q with
    | nil => intro h; cases h
    | cons y q ih =>
      intro h
      show (if (Sum.inl y : Key) = .inl x then some (T.int (p.idxOf y : Nat)) else valT (kI q) _ (.inl x)) = _
      by_cases e : y = x
      · subst e
        rw [if_pos rfl]
      · have n : (Sum.inl y : Key) ≠ .inl x := fun z => e (by cases z; rfl)
        rw [if_neg n]
        exact ih ((List.mem_cons.mp h).resolve_left fun z => e z.symm)
  exact h2 p h
theorem g_sub_at {p : List Int} {x : Int} (h : x ∈ p) : gSubX (atD p) (.int x) = some (false, .int (p.idxOf x : Nat)) := by
  show (valT (kI p) (p.map fun x => .int (p.idxOf x : Nat)) (.inl x)).map (fun t => (false, t)) = _
  rw [valT_at h]
  rfl
theorem g_in_met (neg : Bool) (M : List Int) (x : Int) : gInX neg (.int x) (metD M) = some (true, .bl (if neg then !decide (x ∈ M) else decide (x ∈ M))) := by
  show some (true, T.bl (if neg then !(valT (kI M) (M.map fun _ => T.bl true) (.inl x)).isSome else (valT (kI M) (M.map fun _ => T.bl true) (.inl x)).isSome)) = _
  rw [valT_some]
theorem e_gIxD {S : Slots} {e : Option Src} {fi : Ex} {i : Nat} {k : Kd} {M : List Int} {x : Int} {c : Cell} (hf : fi S e = some (⟨k, .int x⟩, e)) (hS : S[i]? = some (some ⟨.own, metD M⟩)) (hc : c.t = .bl true) (hM : M.length < sizeLine) (hx : x ∉ M) :
    gIxD i fi c S e = some (S.set i (some ⟨.own, metD (M ++ [x])⟩), e) := by
  unfold metD at hS ⊢
  unfold gIxD
  rw [hf]
  simp only [Option.bind_eq_bind, Option.bind_some, hS, hc]
  rw [if_pos, putDK_new M x hx, putDT_new (.bl true) M _ x (by simp) hx, List.map_append]
  · rfl
  · have : (M.map fun _ => T.bl true).all T.flat = true := List.all_eq_true.mpr fun t m => by
      obtain ⟨_, _, rfl⟩ := List.mem_map.mp m
      rfl
    rw [this]
    simp [hM]
/-! ### the rims -/
def rimB : Sx := sSeq (sAsg (xC (.bl true)) (gIxD 2 (xName 8))) (sSeq (sMth 7 hApp (aCons (xName 8) aNil)) (sSet 8 (xBin gSubX (xName 0) (xBin gMod (xCall gInt1 (aCons (xBin gAdd (xBin gSubX (xName 1) (xBin DL.gSub (xC (.int 0)) (xName 8))) (xC (.int 1))) aNil)) (xCall gLen (aCons (xName 0) aNil))))))
theorem nxt_at {p : List Int} {x : Int} (hx : x ∈ p) : atI p (((p.idxOf x : Int) + 1) % p.length) = some (FG.nxt p x) := by
  have hp : 0 < p.length := List.length_pos_of_mem hx
  have e : (((p.idxOf x : Int) + 1) % p.length) = (((p.idxOf x + 1) % p.length : Nat) : Int) := by push_cast; rfl
  rw [e]
  refine atI_nat ?_
  unfold FG.nxt
  rw [List.getD_eq_getElem?_getD, List.getElem?_eq_getElem (Nat.mod_lt _ hp)]
  rfl
theorem rim_loop {n : Nat} {p met : List Int} (hp : FG.Plate n p) (hs : p.length ≤ 900) {x3 x4 x5 x6 : Option Cell} : ∀ (k m : Nat) (row : List Int) (x : Int), k ≤ m → (met ++ row).length + k ≤ 2000 → x ∈ p → (FG.walk p met k row x).length < row.length + k →
    ∃ y, whileN (bVal (xBin (gInX true) (xName 8) (xName 2))) rimB m [some ⟨.shr, wT p⟩, some ⟨.own, atD p⟩, some ⟨.own, metD (met ++ row)⟩, x3, x4, x5, x6, some ⟨.own, wL row⟩, some ⟨.shr, .int x⟩] none =
      some (.nx, [some ⟨.shr, wT p⟩, some ⟨.own, atD p⟩, some ⟨.own, metD (met ++ FG.walk p met k row x)⟩, x3, x4, x5, x6, some ⟨.own, wL (FG.walk p met k row x)⟩, some ⟨.shr, .int y⟩], none) := by
  have hz := sizeLine_eq
  intro k
  induction k with
  | zero =>
    intro m row x _ _ _ h
    unfold FG.walk at h
    omega
  | succ k ih =>
    intro m row x hm hl hx hw
    obtain ⟨m, rfl⟩ : ∃ m', m = m' + 1 := ⟨m - 1, by omega⟩
    rw [whileN_succ]
    by_cases hin : x ∈ met ++ row
    · have e : FG.walk p met (k + 1) row x = row := by rw [FG.walk, if_pos hin]
      rw [e]
      refine ⟨x, ?_⟩
      have hin2 : x ∈ met ∨ x ∈ row := List.mem_append.mp hin
      simp [g_in_met, hin2]
    · have e : FG.walk p met (k + 1) row x = FG.walk p met k (row ++ [x]) (FG.step p x) := by rw [FG.walk, if_neg hin]
      rw [e] at hw ⊢
      have k0 : k ≠ 0 := by
        intro z
        subst z
        unfold FG.walk at hw
        rw [List.length_append, List.length_singleton] at hw
        omega
      obtain ⟨y, ihy⟩ := ih m (row ++ [x]) (FG.step p x) (by omega) (by simp at hl ⊢; omega) (hp.step hx) (by rw [List.length_append, List.length_singleton]; omega)
      refine ⟨y, ?_⟩
      have hneg := hp.neg hx
      have hpos : (0 : Int) < (p.length : Int) := by
        have := List.length_pos_of_mem hx
        omega
      have h0 : (0 : Int) - x = -x := by omega
      have hD := e_gIxD (S := [some ⟨.shr, wT p⟩, some ⟨.own, atD p⟩, some ⟨.own, metD (met ++ row)⟩, x3, x4, x5, x6, some ⟨.own, wL row⟩, some ⟨.shr, .int x⟩]) (e := none) (fi := xName 8) (i := 2) (k := .shr) (M := met ++ row) (x := x) (c := ⟨.shr, .bl true⟩) (by simp) rfl rfl (by omega) hin
      have happ := m_app (w := row) (x := x) (k := .shr) (by simp at hl; omega)
      have hcond : bVal (xBin (gInX true) (xName 8) (xName 2)) [some ⟨.shr, wT p⟩, some ⟨.own, atD p⟩, some ⟨.own, metD (met ++ row)⟩, x3, x4, x5, x6, some ⟨.own, wL row⟩, some ⟨.shr, .int x⟩] none = some (true, none) := by
        have hin2 : ¬ (x ∈ met ∨ x ∈ row) := fun z => hin (List.mem_append.mpr z)
        simp [g_in_met, hin2]
      rw [hcond, Option.bind_some, if_pos rfl]
      have hbody : rimB [some ⟨.shr, wT p⟩, some ⟨.own, atD p⟩, some ⟨.own, metD (met ++ row)⟩, x3, x4, x5, x6, some ⟨.own, wL row⟩, some ⟨.shr, .int x⟩] none =
          some (.nx, [some ⟨.shr, wT p⟩, some ⟨.own, atD p⟩, some ⟨.own, metD (met ++ (row ++ [x]))⟩, x3, x4, x5, x6, some ⟨.own, wL (row ++ [x])⟩, some ⟨.shr, .int (FG.step p x)⟩], none) := by
        unfold rimB
        rw [e_seq, e_asg, e_c, Option.bind_some, hD]
        have hat : atI p (((p.idxOf (-x) : Int) + 1) % p.length) = some (FG.step p x) := nxt_at hneg
        simp only [Option.bind_some, List.set_cons_succ, List.set_cons_zero, e_seq, e_mth, e_acons, e_anil, e_name, List.getElem?_cons_succ, List.getElem?_cons_zero, nk_int, happ, Option.map_some, e_set, e_bin, e_call, nk_wT, nk_atD, nk_metD, e_c, g_sub, kOf_int, h0, g_sub_at hneg, g_add, ts_cons, ts_nil, g_int1, g_len_wT, g_mod hpos, g_sub_wT, hat, keep_shr, List.append_assoc]
      rw [hbody]
      exact ihy
end DL

set_option Elab.async false
set_option linter.all false
set_option maxRecDepth 100000
set_option maxHeartbeats 2000000
namespace DL
open PySem PySem.Spec PyProof.Rows L2
open FG (sub hom Lets flat low und ring rots rmin core Plate Good)

@[simp] theorem e_parN (is : List Nat) (a : Ax) (S : Slots) (e : Option Src) : sParN is a S e = (a S e).bind fun x => (putS S is x.1).bind fun S' => some (.nx, S', x.2) := (rfl)
@[simp] theorem putS_nil (S : Slots) : putS S [] [] = some S := (rfl)
@[simp] theorem putS_cons (S : Slots) (i : Nat) (is : List Nat) (c : Cell) (cs : List Cell) : putS S (i :: is) (c :: cs) = if okItem c = true then (keep c).bind fun d => putS (S.set i (some d)) is cs else none := (rfl)
@[simp] theorem ok_own (t : T) : okItem ⟨.own, t⟩ = true := by simp [okItem]
theorem ok_flat {k : Kd} {t : T} (h : t.flat = true) : okItem ⟨k, t⟩ = true := by simp [okItem, h]
@[simp] theorem ok_int (k : Kd) (i : Int) : okItem ⟨k, .int i⟩ = true := ok_flat rfl
@[simp] theorem ok_wT (k : Kd) (i : List Int) : okItem ⟨k, wT i⟩ = true := ok_flat rfl
theorem g_add_r1 {a : List (List Int)} {r : List Int} (h : a.length < sizeLine) : gAdd (rL a) (.lst [wT r]) = some (true, rL (a ++ [r])) := g_add_rL (a := a) (b := [r]) (by rw [List.length_singleton]; exact h)
theorem g_add_r0 {a : List (List Int)} (h : a.length ≤ sizeLine) : gAdd (rL a) (.lst []) = some (true, rL a) := by
  have := g_add_rL (a := a) (b := []) (by simpa using h)
  rw [List.append_nil] at this
  exact this
@[simp] theorem sz1 : 1 ≤ sizeLine := by rw [sizeLine_eq]; decide
@[simp] theorem sz2 : 2 ≤ sizeLine := by rw [sizeLine_eq]; decide
@[simp] theorem sz3 : 3 ≤ sizeLine := by rw [sizeLine_eq]; decide
@[simp] theorem sz4 : 4 ≤ sizeLine := by rw [sizeLine_eq]; decide
def rimO (C : Addr) : Sx := sSeq (sParN [7, 8] (aCons (xLst aNil) (aCons (xName 6) aNil))) (sSeq (sWhile 1000 (bVal (xBin (gInX true) (xName 8) (xName 2))) rimB) (sSet 3 (xBin gAdd (xName 3) (xIf (bVal (xBin (gEqX true) (xName 7) (xLst aNil))) (xLst (aCons (xCall (gArity 1 (g__law_ring C)) (aCons (xName 7) aNil)) aNil)) (xLst aNil)))))
theorem wL_nil' : (⟨.own, .lst []⟩ : Cell) = ⟨.own, wL []⟩ := rfl
theorem rim_one {C : Addr} {n : Nat} {p : List Int} (hp : Plate n p) (hs : p.length ≤ 900) {rs : List (List Int)} (g : Good p rs) {f : Int} (hf : f ∈ p) {x4 x5 c7 c8 : Option Cell} :
    ∃ y7 y8, rimO C [some ⟨.shr, wT p⟩, some ⟨.own, atD p⟩, some ⟨.own, metD rs.flatten⟩, some ⟨.own, rL (rs.map ring)⟩, x4, x5, some ⟨.shr, .int f⟩, c7, c8] none =
      some (.nx, [some ⟨.shr, wT p⟩, some ⟨.own, atD p⟩, some ⟨.own, metD (if FG.walk p rs.flatten (p.length + 1) [] f = [] then rs else rs ++ [FG.walk p rs.flatten (p.length + 1) [] f]).flatten⟩, some ⟨.own, rL ((if FG.walk p rs.flatten (p.length + 1) [] f = [] then rs else rs ++ [FG.walk p rs.flatten (p.length + 1) [] f]).map ring)⟩, x4, x5, some ⟨.shr, .int f⟩, y7, y8], none) := by
  have hz := sizeLine_eq
  have hw := FG.walk_len hp (g.back hp) hf
  obtain ⟨hl1, hl2⟩ := g.len
  obtain ⟨y, hloop⟩ := rim_loop (met := rs.flatten) hp hs (x3 := some ⟨.own, rL (rs.map ring)⟩) (x4 := x4) (x5 := x5) (x6 := some ⟨.shr, .int f⟩) (p.length + 1) 1000 [] f (by omega) (by rw [List.append_nil]; omega) hf (by simpa using hw)
  rw [List.append_nil] at hloop
  generalize FG.walk p rs.flatten (p.length + 1) [] f = r at hloop hw
  refine ⟨some ⟨.own, wL r⟩, some ⟨.shr, .int y⟩, ?_⟩
  have hpar : sParN [7, 8] (aCons (xLst aNil) (aCons (xName 6) aNil)) [some ⟨.shr, wT p⟩, some ⟨.own, atD p⟩, some ⟨.own, metD rs.flatten⟩, some ⟨.own, rL (rs.map ring)⟩, x4, x5, some ⟨.shr, .int f⟩, c7, c8] none =
      some (.nx, [some ⟨.shr, wT p⟩, some ⟨.own, atD p⟩, some ⟨.own, metD rs.flatten⟩, some ⟨.own, rL (rs.map ring)⟩, x4, x5, some ⟨.shr, .int f⟩, some ⟨.own, wL []⟩, some ⟨.shr, .int f⟩], none) := by
    simp [wL_nil']
  unfold rimO
  rw [e_seq, hpar, Option.bind_some]
  dsimp only
  rw [e_seq, e_while, hloop, Option.bind_some]
  dsimp only
  have hmap : (rs.map ring).length < sizeLine := by rw [List.length_map]; omega
  by_cases hr : r = []
  · subst hr
    simp [g_add_r0 (Nat.le_of_lt hmap)]
  · have hring : g__law_ring C [wL r] = some (true, wT (ring r)) := R_law_ringL (by omega)
    simp [hr, hring, g_add_r1 hmap, jl]
theorem rim_all {C : Addr} {n : Nat} {p : List Int} (hp : Plate n p) (hs : p.length ≤ 900) {x4 x5 : Option Cell} : ∀ (fs : List Int) (rs : List (List Int)) (c6 c7 c8 : Option Cell), (∀ f ∈ fs, f ∈ p) → Good p rs →
    ∃ y6 y7 y8, forL (gN 6) (rimO C) (fs.map T.int) [some ⟨.shr, wT p⟩, some ⟨.own, atD p⟩, some ⟨.own, metD rs.flatten⟩, some ⟨.own, rL (rs.map ring)⟩, x4, x5, c6, c7, c8] none =
      some (.nx, [some ⟨.shr, wT p⟩, some ⟨.own, atD p⟩, some ⟨.own, metD (FG.rowsGo p fs rs).flatten⟩, some ⟨.own, rL ((FG.rowsGo p fs rs).map ring)⟩, x4, x5, y6, y7, y8], none)
  | [], rs, c6, c7, c8, _, _ => ⟨c6, c7, c8, rfl⟩
  | f :: fs, rs, c6, c7, c8, h, g => by
    have hf := h f List.mem_cons_self
    obtain ⟨y7, y8, h1⟩ := rim_one (C := C) hp hs g hf (x4 := x4) (x5 := x5) (c7 := c7) (c8 := c8)
    obtain ⟨z6, z7, z8, h2⟩ := rim_all (C := C) hp hs (x4 := x4) (x5 := x5) fs _ (some ⟨.shr, .int f⟩) y7 y8 (fun x m => h x (List.mem_cons_of_mem _ m)) (g.next hp hf)
    refine ⟨z6, z7, z8, ?_⟩
    rw [List.map_cons, forL_cons, FG.rowsGo]
    simp only [nk_int, e_gN, keep_shr, Option.bind_some, List.set_cons_succ, List.set_cons_zero]
    rw [h1]
    exact h2
theorem it_en {S : Slots} {e : Option Src} {i : Nat} {w : List Int} {k : Kd} (h : xName i S e = some (⟨k, wT w⟩, e)) : iEn (xName i) S e = some (w.zipIdx.map fun z => T.tup [.int (z.2 : Nat), .int z.1], e) := by
  unfold iEn
  rw [h]
  show some (enT (w.map T.int), e) = _
  rw [enT_map, List.zipIdx_map, List.map_map]
  rfl
theorem R_law_rims {C : Addr} {n : Nat} {p : List Int} (hp : Plate n p) (hs : p.length ≤ 900) : g__law_rims C [wT p] = some (true, rL (FG.rims p)) := by
  have hz := sizeLine_eq
  have e0 : slots0 ["plate", "at", "met", "found", "k", "end", "first", "row", "letter"] [wT p] = [some ⟨.shr, wT p⟩, none, none, none, none, none, none, none, none] := rfl
  obtain ⟨y6, y7, y8, hall⟩ := rim_all (C := C) hp hs (x4 := none) (x5 := none) p [] none none none (fun _ m => m) ⟨by simp, .nil, by simp⟩
  have hlc : xLc (iEn (xName 0)) (gT 2 (gsCons (gN 4) (gsCons (gN 5) gsNil))) bYes (xCall gTup (aCons (xName 5) (aCons (xName 4) aNil))) [4, 5] [some ⟨.shr, wT p⟩, none, none, none, none, none, none, none, none] none =
      some (⟨.own, .lst (p.map fun x => T.tup [.int x, .int (p.idxOf x : Nat)])⟩, none) := by
    have h1 := lc_gen (E := fun z : Int × Nat => T.tup [.int (z.2 : Nat), .int z.1]) (O := fun z : Int × Nat => T.tup [.int z.1, .int (z.2 : Nat)]) (G := fun z => z) (P := fun _ => true) (fun _ => rfl) (it := iEn (xName 0)) (g := gT 2 (gsCons (gN 4) (gsCons (gN 5) gsNil))) (c := bYes) (f := xCall gTup (aCons (xName 5) (aCons (xName 4) aNil))) (S := [some ⟨.shr, wT p⟩, none, none, none, none, none, none, none, none]) (vs := [4, 5]) (e := none)
      (Sx := fun z => [some ⟨.shr, wT p⟩, none, none, none, some ⟨.shr, .int (z.2 : Nat)⟩, some ⟨.shr, .int z.1⟩, none, none, none]) (xs := p.zipIdx) (it_en (k := .shr) (by simp)) (fun z _ => by simp) (fun _ _ => by simp) (fun z _ _ => by
        have := tupN (us := [.int z.1, .int (z.2 : Nat)]) rfl (by simp)
        simp [this]) (by rw [List.length_zipIdx]; omega)
    rw [h1, filter_yes]
    congr 3
    have : p.zipIdx = p.map fun x => (x, p.idxOf x) := by
      apply List.ext_getElem
      · simp
      · intro i h1 h2
        rw [List.getElem_zipIdx, List.getElem_map]
        have h3 : i < p.length := by simpa using h1
        rw [List.Nodup.idxOf_getElem hp.nd i h3]
        simp
    rw [this, List.map_map]
    rfl
  have hsort : gSortT [rL ((FG.rows p).map ring)] = some (true, rL (FG.rims p)) := by
    have hd := FG.rows_dec hp
    rw [g_sort, sortL_eq]
    · rfl
    · intro w m
      obtain ⟨r, mr, rfl⟩ := List.mem_map.mp m
      exact FG.ring_row hp (fun x mx => hd.perm.mem_iff.mp (List.mem_flatten.mpr ⟨r, mr, mx⟩)) (hd.cyc r mr)
  unfold g__law_rims runN b__law_rims
  rw [e0]
  have hall : forL (gN 6) (rimO C) (p.map T.int) [some ⟨.shr, wT p⟩, some ⟨.own, atD p⟩, some ⟨.own, metD []⟩, some ⟨.own, rL []⟩, none, none, none, none, none] none = some (.nx, [some ⟨.shr, wT p⟩, some ⟨.own, atD p⟩, some ⟨.own, metD (FG.rows p).flatten⟩, some ⟨.own, rL ((FG.rows p).map ring)⟩, none, none, y6, y7, y8], none) := hall
  have hpar : sParN [1, 2, 3] (aCons (xCall gDict (aCons (xLc (iEn (xName 0)) (gT 2 (gsCons (gN 4) (gsCons (gN 5) gsNil))) bYes (xCall gTup (aCons (xName 5) (aCons (xName 4) aNil))) [4, 5]) aNil)) (aCons (fun _ e => some (⟨.own, .dct [] []⟩, e)) (aCons (xLst aNil) aNil))) [some ⟨.shr, wT p⟩, none, none, none, none, none, none, none, none] none =
      some (.nx, [some ⟨.shr, wT p⟩, some ⟨.own, atD p⟩, some ⟨.own, metD []⟩, some ⟨.own, rL []⟩, none, none, none, none, none], none) := by
    have ek : ∀ k, kOf true k (atD p) = ⟨.own, atD p⟩ := fun _ => rfl
    have e1 : (⟨.own, .dct [] []⟩ : Cell) = ⟨.own, metD []⟩ := rfl
    have e2 : (⟨.own, .lst []⟩ : Cell) = ⟨.own, rL []⟩ := rfl
    simp only [e_parN, e_acons, e_call, hlc, e_anil, Option.bind_some, ts_cons, ts_nil, g_dict_at hp.nd, ek, e_lst, List.length_nil, Nat.zero_le, if_true, jl_nil, e1, e2, putS_cons, putS_nil, ok_own, keep_atD, keep_metD, keep_own_rL, List.set_cons_succ, List.set_cons_zero]
  rw [e_seq, hpar, Option.bind_some]
  dsimp only
  rw [e_seq, e_for, e_iseq]
  simp only [e_name, List.getElem?_cons_zero, nk_wT, Option.bind_some, itT_wT, Option.map_some]
  show endN (((forL (gN 6) (rimO C) _ _ _).bind _)) = _
  rw [hall]
  simp [hsort, endN]
end DL

set_option Elab.async false
set_option linter.all false
set_option maxRecDepth 100000
set_option maxHeartbeats 2000000
namespace DL
open PySem PySem.Spec PyProof.Rows L2
open FG (sub hom Lets flat low und ring rots rmin core Plate Good slideA slideL slideB Nbr nxt slidw ones setw)

theorem ins_after {l : List Int} {k e : Int} (hn : l.Nodup) (hk : k ∈ l) : l.take (l.idxOf k + 1) ++ [e] ++ l.drop (l.idxOf k + 1) = l.flatMap fun y => if y = k then [y, e] else [y] := by
  obtain ⟨a, b, rfl⟩ := List.append_of_mem hk
  have na : k ∉ a := fun m => (List.nodup_append.mp hn).2.2 _ m k (by simp) rfl
  have nb : k ∉ b := (List.nodup_cons.mp (List.nodup_append.mp hn).2.1).1
  rw [FG.idx_mid na, List.flatMap_append, List.flatMap_cons, FG.flatMap_gone (k := 0), FG.flatMap_gone (k := 0), if_pos rfl]
  · rw [show a ++ k :: b = (a ++ [k]) ++ b by simp, show a.length + 1 = (a ++ [k]).length by simp, List.take_left, List.drop_left]
    simp
  · exact fun y m => if_neg fun z => nb (by rw [← z]; exact m)
  · exact fun y m => if_neg fun z => na (by rw [← z]; exact m)
theorem ins_before {l : List Int} {k e : Int} (hn : l.Nodup) (hk : k ∈ l) : l.take (l.idxOf k) ++ [e] ++ l.drop (l.idxOf k) = l.flatMap fun y => if y = k then [e, y] else [y] := by
  obtain ⟨a, b, rfl⟩ := List.append_of_mem hk
  have na : k ∉ a := fun m => (List.nodup_append.mp hn).2.2 _ m k (by simp) rfl
  have nb : k ∉ b := (List.nodup_cons.mp (List.nodup_append.mp hn).2.1).1
  rw [FG.idx_mid na, List.flatMap_append, List.flatMap_cons, FG.flatMap_gone (k := 0), FG.flatMap_gone (k := 0), if_pos rfl]
  · rw [List.take_left, List.drop_left]
    simp
  · exact fun y m => if_neg fun z => nb (by rw [← z]; exact m)
  · exact fun y m => if_neg fun z => na (by rw [← z]; exact m)
/-- the end at a place and the one next to it -/
structure At (p : List Int) (i : Nat) (b : Bool) (e o : Int) : Prop where
  lt : i < p.length
  at_ : p[i]? = some e
  nb : p[(i + if b then 1 else p.length - 1) % p.length]? = some o
theorem At.nbr {n : Nat} {p : List Int} {i : Nat} {b : Bool} {e o : Int} (hp : Plate n p) (h : At p i b e o) : Nbr b p e o := by
  obtain ⟨h1, h2, h3⟩ := h
  have he : e ∈ p := List.mem_of_getElem? h2
  have ho : o ∈ p := List.mem_of_getElem? h3
  have key : ∀ {u v : Int} {j : Nat}, p[j]? = some u → p[(j + 1) % p.length]? = some v → nxt p u = v := fun {u v j} h4 h5 => by
    obtain ⟨hj, hu⟩ := List.getElem?_eq_some_iff.mp h4
    have : p.idxOf u = j := by rw [← hu]; exact List.Nodup.idxOf_getElem hp.nd j hj
    unfold FG.nxt
    rw [this, List.getD_eq_getElem?_getD, h5]
    rfl
  cases b with
  | true => exact ⟨he, key h2 h3⟩
  | false =>
    refine ⟨ho, key h3 ?_⟩
    have : ((i + (p.length - 1)) % p.length + 1) % p.length = i := by
      rw [Nat.mod_add_mod]
      have : i + (p.length - 1) + 1 = i + p.length := by omega
      rw [this, Nat.add_mod_right, Nat.mod_eq_of_lt h1]
    show p[((i + (p.length - 1)) % p.length + 1) % p.length]? = some e
    rw [this]
    exact h2
theorem At.i1 {p : List Int} {i : Nat} {b : Bool} {e o : Int} (h : At p i b e o) : atI p (i : Int) = some e := atI_nat h.at_
theorem At.i2 {p : List Int} {i : Nat} {b : Bool} {e o : Int} (h : At p i b e o) : atI p (((i : Int) + (if b = true then 1 else -1)) % p.length) = some o := by
  have hl := h.lt
  have : (((i : Int) + (if b = true then 1 else -1)) % p.length) = (((i + if b then 1 else p.length - 1) % p.length : Nat) : Int) := by
    cases b with
    | true => simp
    | false =>
      simp only [Bool.false_eq_true, if_false]
      rw [Int.natCast_emod]
      have : ((i + (p.length - 1) : Nat) : Int) = (i : Int) + -1 + p.length := by omega
      rw [this, Int.add_emod_right]
  rw [this]
  exact atI_nat h.nb
theorem At.i3 {p : List Int} {i : Nat} {b : Bool} {e o : Int} (h : At p i b e o) : atI p (((i : Int) + (if b = true then 1 else (p.length : Int) - 1)) % p.length) = some o := by
  have hl := h.lt
  have : (((i : Int) + (if b = true then 1 else (p.length : Int) - 1)) % p.length) = (((i + if b then 1 else p.length - 1) % p.length : Nat) : Int) := by
    cases b with
    | true => simp
    | false =>
      simp only [Bool.false_eq_true, if_false]
      rw [Int.natCast_emod]
      have : ((i + (p.length - 1) : Nat) : Int) = (i : Int) + ((p.length : Int) - 1) := by omega
      rw [this]
  rw [this]
  exact atI_nat h.nb
theorem kOf_bool (n : Bool) (k : Kd) (b : Bool) : kOf n k (.bl b) = ⟨.shr, .bl b⟩ := rfl
theorem R_slid_ends {C : Addr} {n : Nat} {p : List Int} {i : Nat} {b : Bool} {e o : Int} (hp : Plate n p) (hs : p.length ≤ 900) (h : At p i b e o) (hne : o ≠ -e) :
    g_slid_ends C [wT p, .int (i : Nat), .bl b] = some (true, .tup [wT (slideA b e o p), .int e, .int o]) := by
  have hz := sizeLine_eq
  obtain ⟨me, mo⟩ := (h.nbr hp).mem hp
  have ez := hp.nz e me
  have oz := hp.nz o mo
  have e0 : slots0 ["plate", "place", "is_ahead", "end", "over", "rest", "one"] [wT p, .int (i : Nat), .bl b] = [some ⟨.shr, wT p⟩, some ⟨.shr, .int (i : Nat)⟩, some ⟨.shr, .bl b⟩, none, none, none, none] := rfl
  unfold g_slid_ends runN b_slid_ends
  rw [e0]
  have hpos : (0 : Int) < (p.length : Int) := by have := h.lt; omega
  have htup := tupN (us := [.int e, .int o]) rfl (by simp)
  have h1 : sAsg (xCall gTup (aCons (xBin gSubX (xName 0) (xName 1)) (aCons (xBin gSubX (xName 0) (xBin gMod (xBin gAdd (xName 1) (xIf (bVal (xName 2)) (xC (.int 1)) (xUn gNeg (xC (.int 1))))) (xCall gLen (aCons (xName 0) aNil)))) aNil))) (gT 2 (gsCons (gN 3) (gsCons (gN 4) gsNil))) [some ⟨.shr, wT p⟩, some ⟨.shr, .int (i : Nat)⟩, some ⟨.shr, .bl b⟩, none, none, none, none] none =
      some (.nx, [some ⟨.shr, wT p⟩, some ⟨.shr, .int (i : Nat)⟩, some ⟨.shr, .bl b⟩, some ⟨.shr, .int e⟩, some ⟨.shr, .int o⟩, none, none], none) := by
    have i2 := h.i2
    cases b with
    | true =>
      simp only [if_true] at i2
      simp [h.i1, i2, g_mod hpos, htup]
    | false =>
      simp only [Bool.false_eq_true, if_false] at i2
      simp [h.i1, i2, g_mod hpos, htup]
  rw [e_seq, h1, Option.bind_some]
  dsimp only
  have h2 : xLc (iSeqO (xName 0)) (gN 6) (bVal (xBin (gEqX true) (xName 6) (xName 3))) (xName 6) [6] [some ⟨.shr, wT p⟩, some ⟨.shr, .int (i : Nat)⟩, some ⟨.shr, .bl b⟩, some ⟨.shr, .int e⟩, some ⟨.shr, .int o⟩, none, none] none = some (⟨.own, wL (p.filter fun y => decide (y ≠ e))⟩, none) := by
    have := lc_gen (E := T.int) (O := T.int) (G := fun z => z) (P := fun y => decide (y ≠ e)) (fun _ => rfl) (it := iSeqO (xName 0)) (g := gN 6) (c := bVal (xBin (gEqX true) (xName 6) (xName 3))) (f := xName 6) (S := [some ⟨.shr, wT p⟩, some ⟨.shr, .int (i : Nat)⟩, some ⟨.shr, .bl b⟩, some ⟨.shr, .int e⟩, some ⟨.shr, .int o⟩, none, none]) (vs := [6]) (e := none)
      (Sx := fun z => [some ⟨.shr, wT p⟩, some ⟨.shr, .int (i : Nat)⟩, some ⟨.shr, .bl b⟩, some ⟨.shr, .int e⟩, some ⟨.shr, .int o⟩, none, some ⟨.shr, .int z⟩]) (xs := p) (by simp) (fun z _ => by simp) (fun z _ => by simp) (fun z _ _ => by simp) (by omega)
    rw [this]
    rfl
  have rn : (p.filter fun y => decide (y ≠ e)).Nodup := hp.nd.filter _
  have rm : -o ∈ p.filter fun y => decide (y ≠ e) := List.mem_filter.mpr ⟨hp.neg mo, decide_eq_true fun z => hne (by omega)⟩
  have rl : (p.filter fun y => decide (y ≠ e)).length ≤ p.length := List.length_filter_le _ _
  have ix := List.idxOf_lt_length_of_mem rm
  have sA : slideA b e o p = if b then (p.filter fun y => decide (y ≠ e)).flatMap (fun y => if y = -o then [y, e] else [y]) else (p.filter fun y => decide (y ≠ e)).flatMap fun y => if y = -o then [e, y] else [y] := by
    cases b <;> rfl
  generalize (p.filter fun y => decide (y ≠ e)) = r at h2 rn rm rl ix sA
  rw [e_seq, e_set, h2, Option.bind_some, keep_own_wL, Option.bind_some, Option.bind_some]
  dsimp only [List.set_cons_succ, List.set_cons_zero]
  have h3 : ∃ q, sMth 5 hIns (aCons (xBin gAdd (xBm gIdx (xName 5) (aCons (xUn gNeg (xName 4)) aNil)) (xIf (bVal (xName 2)) (xC (.int 1)) (xC (.int 0)))) (aCons (xName 3) aNil)) [some ⟨.shr, wT p⟩, some ⟨.shr, .int (i : Nat)⟩, some ⟨.shr, .bl b⟩, some ⟨.shr, .int e⟩, some ⟨.shr, .int o⟩, some ⟨.own, wL r⟩, none] none =
      some (.nx, [some ⟨.shr, wT p⟩, some ⟨.shr, .int (i : Nat)⟩, some ⟨.shr, .bl b⟩, some ⟨.shr, .int e⟩, some ⟨.shr, .int o⟩, some ⟨.own, wL q⟩, none], none) ∧ q = slideA b e o p := by
    cases b with
    | true =>
      have := m_ins (w := r) (x := e) (i := r.idxOf (-o) + 1) (k := .shr) (k2 := .shr) (by omega) (by omega)
      refine ⟨_, ?_, ins_after rn rm |>.trans sA.symm⟩
      have cast : ((r.idxOf (-o) + 1 : Nat) : Int) = (r.idxOf (-o) : Int) + 1 := by omega
      rw [cast] at this
      simp [rm, this]
    | false =>
      have := m_ins (w := r) (x := e) (i := r.idxOf (-o)) (k := .shr) (k2 := .shr) (by omega) (by omega)
      refine ⟨_, ?_, ins_before rn rm |>.trans sA.symm⟩
      simp [rm, this]
  obtain ⟨q, h3, hq⟩ := h3
  rw [e_seq, h3, Option.bind_some]
  dsimp only
  have htup3 : ∀ q, gTup [wT q, .int e, .int o] = some (true, .tup [wT q, .int e, .int o]) := fun q => tupN rfl (by simp)
  rw [← hq]
  simp [htup3, endN]
theorem R_end_word {C : Addr} (e o : Int) : g_end_word C [.int e, .int o] = some (true, wT (if e > 0 then [o, e] else [-e, -o])) := by
  have e0 : slots0 ["end", "over"] [.int e, .int o] = [some ⟨.shr, .int e⟩, some ⟨.shr, .int o⟩] := rfl
  unfold g_end_word runN b_end_word
  rw [e0]
  have ht : ∀ a b : Int, gTup [.int a, .int b] = some (true, wT [a, b]) := fun a b => tupN (us := [.int a, .int b]) rfl (by simp)
  by_cases h : 0 < e
  · simp [h, ht, endN]
  · simp [h, ht, endN]
end DL

set_option Elab.async false
set_option linter.all false
set_option maxRecDepth 100000
set_option maxHeartbeats 2000000
namespace DL
open PySem PySem.Spec PyProof.Rows L2
open FG (sub hom Lets flat low und ring rots rmin core Plate Good slideA slideL slideB Nbr nxt slidw ones setw)

theorem wT_inj_tup1 (a : Int) : T.tup [.int a] = wT [a] := rfl
theorem wT_inj_tup2 (a b : Int) : T.tup [.int a, .int b] = wT [a, b] := rfl
/-- [(k + 1,) for k in range(many)] -/
theorem ones_lc {S : Slots} {a : Ax} {i v : Nat} {n : Nat} {e : Option Src} {k : Kd} {j : Int} (ha : a S e = some ([⟨k, .int j⟩], e)) (hj : j = n) (hn : n ≤ 1000000) (hv : v < S.length) (hN : n ≤ sizeLine) :
    xLc (iR1 a) (gN v) bYes (xCall gTup (aCons (xBin gAdd (xName v) (xC (.int 1))) aNil)) [v] S e = some (⟨.own, rL (ones n)⟩, e) := by
  have := lc_w (it := iR1 a) (g := gN v) (f := xCall gTup (aCons (xBin gAdd (xName v) (xC (.int 1))) aNil)) (S := S) (vs := [v]) (e := e) (E := fun (i : Nat) => T.int (0 + i)) (G := fun (k : Nat) => [(k : Int) + 1]) (Sx := fun q => (S.set v none).set v (some ⟨.shr, .int (q : Int)⟩)) (xs := List.range n)
    (it_r1 ha hj hn) (fun q _ => by simp) (fun q _ => by
      have hg : ((S.set v none).set v (some ⟨.shr, .int (q : Int)⟩))[v]? = some (some ⟨.shr, .int (q : Int)⟩) := by
        rw [List.getElem?_set_self (by simpa using hv)]
      have ht := tupI ((q : Int) + 1)
      simp only [e_call, e_acons, e_bin, e_name, hg, Option.bind_some, nk_int, e_c, g_add, kOf_int, e_anil, ts_cons, ts_nil, ht, kOf_wT]) (by rw [List.length_range]; omega)
  exact this
theorem e_gIxL_w {i : Nat} {fi : Ex} {S : Slots} {e : Option Src} {k : Kd} {x : Int} {j : Nat} {ws : List (List Int)} {w : List Int} {kc : Kd} (hf : fi S e = some (⟨k, .int x⟩, e)) (hx : x = j) (hj : j < ws.length) (hS : S[i]? = some (some ⟨.own, rL ws⟩)) : gIxL i fi ⟨kc, wT w⟩ S e = some (S.set i (some ⟨.own, rL (ws.set j w)⟩), e) := by
  subst hx
  unfold rL at hS ⊢
  unfold gIxL
  rw [hf]
  simp only [Option.bind_eq_bind, Option.bind_some, hS]
  rw [if_pos (by rw [all_wT]; rfl), List.length_map]
  have : ixN ws.length (j : Int) = some j := by
    unfold ixN
    rw [if_pos (by omega), if_pos (by omega)]
    simp
  rw [this, List.map_set]
  rfl
theorem abs_idx {e : Int} (h : e ≠ 0) : (if e < 0 then -e else e) - 1 = ((e.natAbs - 1 : Nat) : Int) := by
  split <;> omega
theorem half_len {n : Nat} {p : List Int} (hp : Plate n p) : (p.length : Int) / 2 = n := by
  have := hp.length
  omega
theorem R_slid {C : Addr} {n : Nat} {p : List Int} {i : Nat} {b : Bool} {e o : Int} (hp : Plate n p) (hs : p.length ≤ 900) (h : At p i b e o) (hne : o ≠ -e) :
    g_slid C [wT p, .int (i : Nat), .bl b] = some (true, .tup [wT (slideA b e o p), rT (slidw n e o)]) := by
  have hz := sizeLine_eq
  obtain ⟨me, mo⟩ := (h.nbr hp).mem hp
  have ez := hp.nz e me
  have el := (hp.mem e).mp me
  have hl := hp.length
  have e0 : slots0 ["plate", "place", "is_ahead", "late", "end", "over", "words", "band"] [wT p, .int (i : Nat), .bl b] = [some ⟨.shr, wT p⟩, some ⟨.shr, .int (i : Nat)⟩, some ⟨.shr, .bl b⟩, none, none, none, none, none] := rfl
  unfold g_slid runN b_slid
  rw [e0]
  have h1 : sAsg (xCall (gArity 3 (g_slid_ends C)) (aCons (xName 0) (aCons (xName 1) (aCons (xName 2) aNil)))) (gT 3 (gsCons (gN 3) (gsCons (gN 4) (gsCons (gN 5) gsNil)))) [some ⟨.shr, wT p⟩, some ⟨.shr, .int (i : Nat)⟩, some ⟨.shr, .bl b⟩, none, none, none, none, none] none =
      some (.nx, [some ⟨.shr, wT p⟩, some ⟨.shr, .int (i : Nat)⟩, some ⟨.shr, .bl b⟩, some ⟨.shr, wT (slideA b e o p)⟩, some ⟨.shr, .int e⟩, some ⟨.shr, .int o⟩, none, none], none) := by
    simp [R_slid_ends (C := C) hp hs h hne]
  rw [e_seq, h1, Option.bind_some]
  dsimp only
  have h2 := ones_lc (S := [some ⟨.shr, wT p⟩, some ⟨.shr, .int (i : Nat)⟩, some ⟨.shr, .bl b⟩, some ⟨.shr, wT (slideA b e o p)⟩, some ⟨.shr, .int e⟩, some ⟨.shr, .int o⟩, none, none]) (a := aCons (xBin gDiv (xCall gLen (aCons (xName 0) aNil)) (xC (.int 2))) aNil) (v := 7) (n := n) (e := none) (k := .shr) (j := (p.length : Int) / 2) (i := 0) (by simp [g_div]) (half_len hp) (by omega) (by simp) (by omega)
  rw [e_seq, e_set, h2, Option.bind_some, keep_own_rL, Option.bind_some, Option.bind_some]
  dsimp only [List.set_cons_succ, List.set_cons_zero]
  have h3 : sAsg (xCall (gArity 2 (g_end_word C)) (aCons (xName 4) (aCons (xName 5) aNil))) (gIxL 6 (xBin DL.gSub (xCall gAbs (aCons (xName 4) aNil)) (xC (.int 1)))) [some ⟨.shr, wT p⟩, some ⟨.shr, .int (i : Nat)⟩, some ⟨.shr, .bl b⟩, some ⟨.shr, wT (slideA b e o p)⟩, some ⟨.shr, .int e⟩, some ⟨.shr, .int o⟩, some ⟨.own, rL (ones n)⟩, none] none =
      some (.nx, [some ⟨.shr, wT p⟩, some ⟨.shr, .int (i : Nat)⟩, some ⟨.shr, .bl b⟩, some ⟨.shr, wT (slideA b e o p)⟩, some ⟨.shr, .int e⟩, some ⟨.shr, .int o⟩, some ⟨.own, rL (slidw n e o)⟩, none], none) := by
    have hi := e_gIxL_w (i := 6) (fi := xBin DL.gSub (xCall gAbs (aCons (xName 4) aNil)) (xC (.int 1))) (S := [some ⟨.shr, wT p⟩, some ⟨.shr, .int (i : Nat)⟩, some ⟨.shr, .bl b⟩, some ⟨.shr, wT (slideA b e o p)⟩, some ⟨.shr, .int e⟩, some ⟨.shr, .int o⟩, some ⟨.own, rL (ones n)⟩, none]) (e := none) (k := .shr) (x := (if e < 0 then -e else e) - 1) (j := e.natAbs - 1) (ws := ones n) (w := if e > 0 then [o, e] else [-e, -o]) (kc := .shr) (by simp) (abs_idx ez) (by rw [FG.ones_length]; omega) rfl
    have hw : (ones n).set (e.natAbs - 1) (if e > 0 then [o, e] else [-e, -o]) = slidw n e o := by
      unfold FG.slidw FG.setw
      rfl
    rw [hw] at hi
    rw [e_asg]
    simp only [e_call, e_acons, e_anil, e_name, List.getElem?_cons_succ, List.getElem?_cons_zero, nk_int, Option.bind_some, ts_cons, ts_nil, ar2, R_end_word, kOf_wT, hi, List.set_cons_succ, List.set_cons_zero]
  rw [e_seq, h3, Option.bind_some]
  dsimp only
  have ht := tupN (us := [wT (slideA b e o p), rT (slidw n e o)]) rfl (by simp)
  simp [ht, endN]
/-! ### the law's own slide -/
def lsB : Sx := sSeq (sIf (bVal (xBin (gEqX false) (xName 7) (xName 4))) sCt sNx) (sSeq (sIf (bAnd (bVal (xBin (gEqX false) (xName 7) (xBin DL.gSub (xC (.int 0)) (xName 5)))) (bNot (bVal (xName 2)))) (sMth 6 hApp (aCons (xName 4) aNil)) sNx) (sSeq (sMth 6 hApp (aCons (xName 7) aNil)) (sIf (bAnd (bVal (xBin (gEqX false) (xName 7) (xBin DL.gSub (xC (.int 0)) (xName 5)))) (bVal (xName 2))) (sMth 6 hApp (aCons (xName 4) aNil)) sNx)))
def insW (b : Bool) (e o y : Int) : List Int := if y = -o then (if b then [y, e] else [e, y]) else [y]
theorem ls_loop {x0 x1 x3 x8 x9 : Option Cell} {b : Bool} {e o : Int} : ∀ (p acc : List Int) (c : Option Cell), acc.length + 2 * p.length < sizeLine →
    ∃ c', forL (gN 7) lsB (p.map T.int) [x0, x1, some ⟨.shr, .bl b⟩, x3, some ⟨.shr, .int e⟩, some ⟨.shr, .int o⟩, some ⟨.own, wL acc⟩, c, x8, x9] none =
      some (.nx, [x0, x1, some ⟨.shr, .bl b⟩, x3, some ⟨.shr, .int e⟩, some ⟨.shr, .int o⟩, some ⟨.own, wL (acc ++ (p.filter fun y => decide (y ≠ e)).flatMap (insW b e o))⟩, c', x8, x9], none)
  | [], acc, c, _ => ⟨c, by simp⟩
  | y :: p, acc, c, hl => by
    rw [List.length_cons] at hl
    rw [List.map_cons]
    have hlen : (insW b e o y).length ≤ 2 := by
      unfold insW
      split
      · split <;> simp
      · simp
    by_cases hy : y = e
    · obtain ⟨c', ih⟩ := ls_loop (x0 := x0) (x1 := x1) (x3 := x3) (x8 := x8) (x9 := x9) (b := b) (e := e) (o := o) p acc (some ⟨.shr, .int y⟩) (by omega)
      refine ⟨c', ?_⟩
      rw [forL_cons]
      subst hy
      have hb : lsB [x0, x1, some ⟨.shr, .bl b⟩, x3, some ⟨.shr, .int y⟩, some ⟨.shr, .int o⟩, some ⟨.own, wL acc⟩, some ⟨.shr, .int y⟩, x8, x9] none = some (.ct, [x0, x1, some ⟨.shr, .bl b⟩, x3, some ⟨.shr, .int y⟩, some ⟨.shr, .int o⟩, some ⟨.own, wL acc⟩, some ⟨.shr, .int y⟩, x8, x9], none) := by simp [lsB]
      simp only [nk_int, e_gN, keep_shr, Option.bind_some, List.set_cons_succ, List.set_cons_zero]
      rw [hb, Option.bind_some]
      dsimp only
      rw [ih, List.filter_cons, if_neg (by simp)]
    · obtain ⟨c', ih⟩ := ls_loop (x0 := x0) (x1 := x1) (x3 := x3) (x8 := x8) (x9 := x9) (b := b) (e := e) (o := o) p (acc ++ insW b e o y) (some ⟨.shr, .int y⟩) (by rw [List.length_append]; omega)
      refine ⟨c', ?_⟩
      rw [forL_cons]
      have h0 : (0 : Int) - o = -o := by omega
      have hb : lsB [x0, x1, some ⟨.shr, .bl b⟩, x3, some ⟨.shr, .int e⟩, some ⟨.shr, .int o⟩, some ⟨.own, wL acc⟩, some ⟨.shr, .int y⟩, x8, x9] none = some (.nx, [x0, x1, some ⟨.shr, .bl b⟩, x3, some ⟨.shr, .int e⟩, some ⟨.shr, .int o⟩, some ⟨.own, wL (acc ++ insW b e o y)⟩, some ⟨.shr, .int y⟩, x8, x9], none) := by
        have a1 := m_app (w := acc) (x := y) (k := .shr) (by omega)
        have a2 := m_app (w := acc) (x := e) (k := .shr) (by omega)
        have a3 := m_app (w := acc ++ [y]) (x := e) (k := .shr) (by simp; omega)
        have a4 := m_app (w := acc ++ [e]) (x := y) (k := .shr) (by simp; omega)
        unfold insW
        by_cases hyo : y = -o
        · subst hyo
          rw [List.append_assoc] at a3 a4
          have n1 : [-o] ++ [e] = [-o, e] := rfl
          have n2 : [e] ++ [-o] = [e, -o] := rfl
          rw [n1] at a3
          rw [n2] at a4
          cases b with
          | true => simp [lsB, hy, a1, a3]
          | false => simp [lsB, hy, a2, a4]
        · simp [lsB, hy, hyo, a1]
      simp only [nk_int, e_gN, keep_shr, Option.bind_some, List.set_cons_succ, List.set_cons_zero]
      rw [hb, Option.bind_some]
      dsimp only
      rw [ih, List.filter_cons, if_pos (by simpa using hy), List.flatMap_cons, List.append_assoc]
theorem R_law_slid {C : Addr} {n : Nat} {p : List Int} {i : Nat} {b : Bool} {e o : Int} (hp : Plate n p) (hs : p.length ≤ 900) (h : At p i b e o) :
    g__law_slid C [wT p, .int (i : Nat), .bl b] = some (true, .tup [wT (slideA b e o p), rT (slidw n e o)]) := by
  have hz := sizeLine_eq
  obtain ⟨me, mo⟩ := (h.nbr hp).mem hp
  have ez := hp.nz e me
  have el := (hp.mem e).mp me
  have hl := hp.length
  have e0 : slots0 ["plate", "place", "is_ahead", "many", "end", "over", "found", "one", "words", "k"] [wT p, .int (i : Nat), .bl b] = [some ⟨.shr, wT p⟩, some ⟨.shr, .int (i : Nat)⟩, some ⟨.shr, .bl b⟩, none, none, none, none, none, none, none] := rfl
  unfold g__law_slid runN b__law_slid
  rw [e0]
  have hpos : (0 : Int) < (p.length : Int) := by have := h.lt; omega
  rw [e_seq]
  have h0 : sSet 3 (xCall gLen (aCons (xName 0) aNil)) [some ⟨.shr, wT p⟩, some ⟨.shr, .int (i : Nat)⟩, some ⟨.shr, .bl b⟩, none, none, none, none, none, none, none] none = some (.nx, [some ⟨.shr, wT p⟩, some ⟨.shr, .int (i : Nat)⟩, some ⟨.shr, .bl b⟩, some ⟨.shr, .int p.length⟩, none, none, none, none, none, none], none) := by simp
  rw [h0, Option.bind_some]
  dsimp only
  have h1 : sParN [4, 5] (aCons (xBin gSubX (xName 0) (xName 1)) (aCons (xBin gSubX (xName 0) (xBin gMod (xCall gInt1 (aCons (xBin gAdd (xName 1) (xIf (bVal (xName 2)) (xC (.int 1)) (xBin DL.gSub (xName 3) (xC (.int 1))))) aNil)) (xName 3))) aNil)) [some ⟨.shr, wT p⟩, some ⟨.shr, .int (i : Nat)⟩, some ⟨.shr, .bl b⟩, some ⟨.shr, .int p.length⟩, none, none, none, none, none, none] none =
      some (.nx, [some ⟨.shr, wT p⟩, some ⟨.shr, .int (i : Nat)⟩, some ⟨.shr, .bl b⟩, some ⟨.shr, .int p.length⟩, some ⟨.shr, .int e⟩, some ⟨.shr, .int o⟩, none, none, none, none], none) := by
    have i3 := h.i3
    cases b with
    | true =>
      simp only [if_true] at i3
      simp [h.i1, i3, g_mod hpos]
    | false =>
      simp only [Bool.false_eq_true, if_false] at i3
      simp [h.i1, i3, g_mod hpos]
  rw [e_seq, h1, Option.bind_some]
  dsimp only
  obtain ⟨c', hloop⟩ := ls_loop (x0 := some ⟨.shr, wT p⟩) (x1 := some ⟨.shr, .int (i : Nat)⟩) (x3 := some ⟨.shr, .int p.length⟩) (x8 := none) (x9 := none) (b := b) (e := e) (o := o) p [] none (by simp; omega)
  have hins : [] ++ (p.filter fun y => decide (y ≠ e)).flatMap (insW b e o) = slideA b e o p := by
    rw [List.nil_append]
    cases b <;> rfl
  rw [hins] at hloop
  have h2 : sSet 6 (xLst aNil) [some ⟨.shr, wT p⟩, some ⟨.shr, .int (i : Nat)⟩, some ⟨.shr, .bl b⟩, some ⟨.shr, .int p.length⟩, some ⟨.shr, .int e⟩, some ⟨.shr, .int o⟩, none, none, none, none] none = some (.nx, [some ⟨.shr, wT p⟩, some ⟨.shr, .int (i : Nat)⟩, some ⟨.shr, .bl b⟩, some ⟨.shr, .int p.length⟩, some ⟨.shr, .int e⟩, some ⟨.shr, .int o⟩, some ⟨.own, wL []⟩, none, none, none], none) := by simp [wL_nil']
  rw [e_seq, h2, Option.bind_some]
  dsimp only
  rw [e_seq, e_for, e_iseq]
  simp only [e_name, List.getElem?_cons_zero, nk_wT, Option.bind_some, itT_wT, Option.map_some]
  have hloop : forL (gN 7) lsB (p.map T.int) [some ⟨.shr, wT p⟩, some ⟨.shr, .int (i : Nat)⟩, some ⟨.shr, .bl b⟩, some ⟨.shr, .int p.length⟩, some ⟨.shr, .int e⟩, some ⟨.shr, .int o⟩, some ⟨.own, wL []⟩, none, none, none] none = _ := hloop
  show endN ((forL (gN 7) lsB _ _ _).bind _) = _
  rw [hloop, Option.bind_some]
  dsimp only
  have h4 := ones_lc (S := [some ⟨.shr, wT p⟩, some ⟨.shr, .int (i : Nat)⟩, some ⟨.shr, .bl b⟩, some ⟨.shr, .int p.length⟩, some ⟨.shr, .int e⟩, some ⟨.shr, .int o⟩, some ⟨.own, wL (slideA b e o p)⟩, c', none, none]) (a := aCons (xBin gDiv (xName 3) (xC (.int 2))) aNil) (v := 9) (n := n) (e := none) (k := .shr) (j := (p.length : Int) / 2) (i := 0) (by simp [g_div]) (half_len hp) (by omega) (by simp) (by omega)
  rw [e_seq, e_set, h4, Option.bind_some, keep_own_rL, Option.bind_some, Option.bind_some]
  dsimp only [List.set_cons_succ, List.set_cons_zero]
  have h5 : sAsg (xIf (bVal (xBin gGt (xName 4) (xC (.int 0)))) (xCall gTup (aCons (xName 5) (aCons (xName 4) aNil))) (xCall gTup (aCons (xBin DL.gSub (xC (.int 0)) (xName 4)) (aCons (xBin DL.gSub (xC (.int 0)) (xName 5)) aNil)))) (gIxL 8 (xBin DL.gSub (xCall gAbs (aCons (xName 4) aNil)) (xC (.int 1)))) [some ⟨.shr, wT p⟩, some ⟨.shr, .int (i : Nat)⟩, some ⟨.shr, .bl b⟩, some ⟨.shr, .int p.length⟩, some ⟨.shr, .int e⟩, some ⟨.shr, .int o⟩, some ⟨.own, wL (slideA b e o p)⟩, c', some ⟨.own, rL (ones n)⟩, none] none =
      some (.nx, [some ⟨.shr, wT p⟩, some ⟨.shr, .int (i : Nat)⟩, some ⟨.shr, .bl b⟩, some ⟨.shr, .int p.length⟩, some ⟨.shr, .int e⟩, some ⟨.shr, .int o⟩, some ⟨.own, wL (slideA b e o p)⟩, c', some ⟨.own, rL (slidw n e o)⟩, none], none) := by
    have hi := e_gIxL_w (i := 8) (fi := xBin DL.gSub (xCall gAbs (aCons (xName 4) aNil)) (xC (.int 1))) (S := [some ⟨.shr, wT p⟩, some ⟨.shr, .int (i : Nat)⟩, some ⟨.shr, .bl b⟩, some ⟨.shr, .int p.length⟩, some ⟨.shr, .int e⟩, some ⟨.shr, .int o⟩, some ⟨.own, wL (slideA b e o p)⟩, c', some ⟨.own, rL (ones n)⟩, none]) (e := none) (k := .shr) (x := (if e < 0 then -e else e) - 1) (j := e.natAbs - 1) (ws := ones n) (w := if e > 0 then [o, e] else [-e, -o]) (kc := .shr) (by simp) (abs_idx ez) (by rw [FG.ones_length]; omega) rfl
    have hw : (ones n).set (e.natAbs - 1) (if e > 0 then [o, e] else [-e, -o]) = slidw n e o := by
      unfold FG.slidw FG.setw
      rfl
    rw [hw] at hi
    have ht : ∀ a b : Int, gTup [.int a, .int b] = some (true, wT [a, b]) := fun a b => tupN (us := [.int a, .int b]) rfl (by simp)
    have hx : xIf (bVal (xBin gGt (xName 4) (xC (.int 0)))) (xCall gTup (aCons (xName 5) (aCons (xName 4) aNil))) (xCall gTup (aCons (xBin DL.gSub (xC (.int 0)) (xName 4)) (aCons (xBin DL.gSub (xC (.int 0)) (xName 5)) aNil))) [some ⟨.shr, wT p⟩, some ⟨.shr, .int (i : Nat)⟩, some ⟨.shr, .bl b⟩, some ⟨.shr, .int p.length⟩, some ⟨.shr, .int e⟩, some ⟨.shr, .int o⟩, some ⟨.own, wL (slideA b e o p)⟩, c', some ⟨.own, rL (ones n)⟩, none] none = some (⟨.shr, wT (if e > 0 then [o, e] else [-e, -o])⟩, none) := by
      by_cases he : 0 < e
      · simp [he, ht]
      · simp [he, ht]
    rw [e_asg, hx, Option.bind_some, hi]
    rfl
  rw [e_seq, h5, Option.bind_some]
  dsimp only
  have ht := tupN (us := [wT (slideA b e o p), rT (slidw n e o)]) rfl (by simp)
  simp [ht, endN]
end DL

set_option Elab.async false
set_option linter.all false
set_option maxRecDepth 100000
set_option maxHeartbeats 2000000
namespace DL
open PySem PySem.Spec PyProof.Rows L2
open FG (sub hom Lets flat low und ring rots rmin core Plate Good slideA slideL slideB Nbr nxt slidw ones setw)

def prT (z : Int × Bool) : T := .tup [.int z.1, .bl z.2]
def lP (L : List (Int × Bool)) : T := .lst (L.map prT)
theorem en_prT : En prT 1 := en_pair en_int en_bl
theorem en_lP : En lP 2 := en_lst en_prT
@[simp] theorem nk_lP (k : Kd) (L : List (Int × Bool)) : nk k (lP L) = ⟨k, lP L⟩ := (rfl)
@[simp] theorem keep_lP (L : List (Int × Bool)) : keep ⟨.own, lP L⟩ = some ⟨.own, lP L⟩ := (rfl)
@[simp] theorem f_lP (L : List (Int × Bool)) : (lP L).flat = false := (rfl)
@[simp] theorem eqX_lP0 (neg : Bool) (L : List (Int × Bool)) : gEqX neg (lP L) (.lst []) = some (true, .bl (if neg then !decide (L = []) else decide (L = []))) := eqX_en en_lP (by decide) (fun _ _ _ => rfl) neg L []
@[simp] theorem g_len_lP (L : List (Int × Bool)) : gLen [lP L] = some (true, .int L.length) := by
  show some (true, T.int ((L.map prT).length : Nat)) = _
  rw [List.length_map]
theorem g_sub_lP (L : List (Int × Bool)) (i : Int) : gSubX (lP L) (.int i) = (atI L i).map fun x => (false, prT x) := by
  show (atI (L.map prT) i).map (fun t => (false, t)) = _
  rw [atI_map]
  cases atI L i <;> rfl
theorem m_appP {L : List (Int × Bool)} {i : Int} {b : Bool} {k : Kd} (h : L.length < sizeLine) : mthC hApp (some ⟨.own, lP L⟩) [⟨k, .tup [.int i, .bl b]⟩] = some ⟨.own, lP (L ++ [(i, b)])⟩ := by
  show (if ([⟨k, .tup [.int i, .bl b]⟩] : List Cell).all okItem then (if (L.map prT).length < sizeLine then some (L.map prT ++ [T.tup [.int i, .bl b]]) else none).map _ else none) = _
  rw [if_pos (by rfl), List.length_map, if_pos h]
  show some (⟨.own, .lst (L.map prT ++ [prT (i, b)])⟩ : Cell) = some ⟨.own, .lst ((L ++ [(i, b)]).map prT)⟩
  rw [List.map_append]
  rfl
def slB : Sx := sSeq (sSet 5 (xBin gSubX (xName 0) (xBin gMod (xCall gInt1 (aCons (xBin gAdd (xName 3) (xIf (bVal (xName 4)) (xC (.int 1)) (xBin DL.gSub (xName 1) (xC (.int 1))))) aNil)) (xName 1)))) (sIf (bVal (xBin (gEqX true) (xName 5) (xBin DL.gSub (xC (.int 0)) (xBin gSubX (xName 0) (xName 3))))) (sMth 2 hApp (aCons (xCall gTup (aCons (xName 3) (aCons (xName 4) aNil))) aNil)) sNx)
/-- what is found keeps to what may be slid -/
def Ok (p : List Int) (L : List (Int × Bool)) : Prop := ∀ z ∈ L, ∃ (i : Nat) (e o : Int), z.1 = i ∧ At p i z.2 e o ∧ o ≠ -e
theorem At.of {p : List Int} {i : Nat} (h : i < p.length) (b : Bool) : ∃ e o, At p i b e o := by
  have h2 : (i + if b then 1 else p.length - 1) % p.length < p.length := Nat.mod_lt _ (by omega)
  exact ⟨p[i], p[(i + if b then 1 else p.length - 1) % p.length], h, List.getElem?_eq_getElem h, List.getElem?_eq_getElem h2⟩
theorem sl_one {p : List Int} (hs : p.length ≤ 900) {i : Nat} (hi : i < p.length) (b : Bool) {L : List (Int × Bool)} (hL : L.length < sizeLine) (ok : Ok p L) {c5 : Option Cell} : ∃ L' y, Ok p L' ∧ L'.length ≤ L.length + 1 ∧
    slB [some ⟨.shr, wT p⟩, some ⟨.shr, .int p.length⟩, some ⟨.own, lP L⟩, some ⟨.shr, .int i⟩, some ⟨.shr, .bl b⟩, c5] none = some (.nx, [some ⟨.shr, wT p⟩, some ⟨.shr, .int p.length⟩, some ⟨.own, lP L'⟩, some ⟨.shr, .int i⟩, some ⟨.shr, .bl b⟩, y], none) := by
  obtain ⟨e, o, h⟩ := At.of hi b
  have hpos : (0 : Int) < (p.length : Int) := by omega
  have h1 : sSet 5 (xBin gSubX (xName 0) (xBin gMod (xCall gInt1 (aCons (xBin gAdd (xName 3) (xIf (bVal (xName 4)) (xC (.int 1)) (xBin DL.gSub (xName 1) (xC (.int 1))))) aNil)) (xName 1))) [some ⟨.shr, wT p⟩, some ⟨.shr, .int p.length⟩, some ⟨.own, lP L⟩, some ⟨.shr, .int i⟩, some ⟨.shr, .bl b⟩, c5] none =
      some (.nx, [some ⟨.shr, wT p⟩, some ⟨.shr, .int p.length⟩, some ⟨.own, lP L⟩, some ⟨.shr, .int i⟩, some ⟨.shr, .bl b⟩, some ⟨.shr, .int o⟩], none) := by
    have i3 := h.i3
    cases b with
    | true =>
      simp only [if_true] at i3
      simp [i3, g_mod hpos]
    | false =>
      simp only [Bool.false_eq_true, if_false] at i3
      simp [i3, g_mod hpos]
  have h0 : (0 : Int) - e = -e := by omega
  have ht := tupN (us := [.int i, .bl b]) rfl (by simp)
  unfold slB
  rw [e_seq, h1, Option.bind_some]
  dsimp only
  by_cases hne : o = -e
  · refine ⟨L, some ⟨.shr, .int o⟩, ok, by omega, ?_⟩
    simp [h.i1, hne]
  · refine ⟨L ++ [((i : Int), b)], some ⟨.shr, .int o⟩, fun z m => ?_, by simp, ?_⟩
    · rcases List.mem_append.mp m with m | m
      · exact ok z m
      · rw [List.mem_singleton.mp m]
        exact ⟨i, e, o, rfl, h, hne⟩
    · simp [h.i1, hne, ht, m_appP hL]
theorem sl_two {p : List Int} (hs : p.length ≤ 900) {i : Nat} (hi : i < p.length) {L : List (Int × Bool)} (hL : L.length + 2 < sizeLine) (ok : Ok p L) {c4 c5 : Option Cell} : ∃ L' y4 y5, Ok p L' ∧ L'.length ≤ L.length + 2 ∧
    sFor (iSeq (xCall gTup (aCons (xC (.bl true)) (aCons (xC (.bl false)) aNil)))) (gN 4) slB [some ⟨.shr, wT p⟩, some ⟨.shr, .int p.length⟩, some ⟨.own, lP L⟩, some ⟨.shr, .int i⟩, c4, c5] none =
      some (.nx, [some ⟨.shr, wT p⟩, some ⟨.shr, .int p.length⟩, some ⟨.own, lP L'⟩, some ⟨.shr, .int i⟩, y4, y5], none) := by
  obtain ⟨L1, y1, o1, l1, h1⟩ := sl_one hs hi true (L := L) (by omega) ok (c5 := c5)
  obtain ⟨L2, y2, o2, l2, h2⟩ := sl_one hs hi false (L := L1) (by omega) o1 (c5 := y1)
  refine ⟨L2, some ⟨.shr, .bl false⟩, y2, o2, by omega, ?_⟩
  have ht := tupN (us := [.bl true, .bl false]) rfl (by simp)
  have hit : iSeq (xCall gTup (aCons (xC (.bl true)) (aCons (xC (.bl false)) aNil))) [some ⟨.shr, wT p⟩, some ⟨.shr, .int p.length⟩, some ⟨.own, lP L⟩, some ⟨.shr, .int i⟩, c4, c5] none = some ([.bl true, .bl false], none) := by
    simp [ht, itT]
  rw [e_for, hit, Option.bind_some]
  dsimp only
  rw [forL_cons]
  simp only [nk_bl, e_gN, keep_shr, Option.bind_some, List.set_cons_succ, List.set_cons_zero]
  rw [h1, Option.bind_some]
  dsimp only
  rw [forL_cons]
  simp only [nk_bl, e_gN, keep_shr, Option.bind_some, List.set_cons_succ, List.set_cons_zero]
  rw [h2, Option.bind_some]
  rfl
theorem sl_loop {p : List Int} (hs : p.length ≤ 900) : ∀ (ks : List Nat) (L : List (Int × Bool)) (c3 c4 c5 : Option Cell), (∀ k ∈ ks, k < p.length) → L.length + 2 * ks.length + 2 < sizeLine → Ok p L → ∃ L' y3 y4 y5, Ok p L' ∧ L'.length ≤ L.length + 2 * ks.length ∧
    forL (gN 3) (sFor (iSeq (xCall gTup (aCons (xC (.bl true)) (aCons (xC (.bl false)) aNil)))) (gN 4) slB) (ks.map fun (i : Nat) => T.int (0 + (i : Int))) [some ⟨.shr, wT p⟩, some ⟨.shr, .int p.length⟩, some ⟨.own, lP L⟩, c3, c4, c5] none =
      some (.nx, [some ⟨.shr, wT p⟩, some ⟨.shr, .int p.length⟩, some ⟨.own, lP L'⟩, y3, y4, y5], none)
  | [], L, c3, c4, c5, _, _, ok => ⟨L, c3, c4, c5, ok, by simp, rfl⟩
  | k :: ks, L, c3, c4, c5, hk, hl, ok => by
    rw [List.length_cons] at hl
    obtain ⟨L1, y4, y5, o1, l1, h1⟩ := sl_two hs (hk k List.mem_cons_self) (L := L) (by omega) ok (c4 := c4) (c5 := c5)
    obtain ⟨L2, z3, z4, z5, o2, l2, h2⟩ := sl_loop hs ks L1 (some ⟨.shr, .int k⟩) y4 y5 (fun j m => hk j (List.mem_cons_of_mem _ m)) (by omega) o1
    refine ⟨L2, z3, z4, z5, o2, by rw [List.length_cons]; omega, ?_⟩
    rw [List.map_cons, forL_cons]
    have h0 : (0 : Int) + (k : Int) = k := by omega
    simp only [nk_int, e_gN, keep_shr, Option.bind_some, List.set_cons_succ, List.set_cons_zero, h0]
    rw [h1, Option.bind_some]
    exact h2
theorem R_law_slides {C : Addr} {p : List Int} (hs : p.length ≤ 900) : ∃ L, Ok p L ∧ L.length ≤ 2000 ∧ g__law_slides C [wT p] = some (true, lP L) := by
  have hz := sizeLine_eq
  obtain ⟨L, y3, y4, y5, ok, hl, h⟩ := sl_loop hs (List.range p.length) [] none none none (fun k m => List.mem_range.mp m) (by simp; omega) (fun z m => by cases m)
  refine ⟨L, ok, by simp at hl; omega, ?_⟩
  have e0 : slots0 ["plate", "many", "found", "place", "is_ahead", "over"] [wT p] = [some ⟨.shr, wT p⟩, none, none, none, none, none] := rfl
  unfold g__law_slides runN b__law_slides
  rw [e0]
  have e1 : (⟨.own, .lst []⟩ : Cell) = ⟨.own, lP []⟩ := rfl
  have h1 : sParN [1, 2] (aCons (xCall gLen (aCons (xName 0) aNil)) (aCons (xLst aNil) aNil)) [some ⟨.shr, wT p⟩, none, none, none, none, none] none = some (.nx, [some ⟨.shr, wT p⟩, some ⟨.shr, .int p.length⟩, some ⟨.own, lP []⟩, none, none, none], none) := by
    simp [e1]
  rw [e_seq, h1, Option.bind_some]
  dsimp only
  have hit := it_r1 (S := [some ⟨.shr, wT p⟩, some ⟨.shr, .int p.length⟩, some ⟨.own, lP []⟩, none, none, none]) (e := none) (a := aCons (xName 1) aNil) (k := .shr) (n := p.length) (j := (p.length : Int)) (by simp) rfl (by omega)
  rw [e_seq, e_for, hit, Option.bind_some]
  dsimp only
  show endN ((forL (gN 3) (sFor (iSeq (xCall gTup (aCons (xC (.bl true)) (aCons (xC (.bl false)) aNil)))) (gN 4) slB) _ _ _).bind _) = _
  rw [h, Option.bind_some]
  simp [e_retN, endN]
/-! ### the plate of the type -/
def hands : Nat → List Int
  | 0 => []
  | k + 1 => hands k ++ [2 * (k : Int) + 1, 2 * k + 2, -2 * k - 1, -2 * k - 2]
def pairsU (lo : Int) : Nat → List Int
  | 0 => []
  | k + 1 => pairsU lo k ++ [lo + k, -(lo + k)]
theorem hands_len : ∀ k, (hands k).length = 4 * k
  | 0 => rfl
  | k + 1 => by rw [hands, List.length_append, hands_len k]; simp; omega
theorem pairsU_len (lo : Int) : ∀ k, (pairsU lo k).length = 2 * k
  | 0 => rfl
  | k + 1 => by rw [pairsU, List.length_append, pairsU_len lo k]; simp; omega
theorem hand_loop {x0 x1 x2 x3 : Option Cell} : ∀ (k : Nat) (c5 : Option Cell), k ≤ 1000 → ∃ y5, forL (gN 5) (sSet 4 (xBin gAdd (xName 4) (xLst (aCons (xBin gAdd (xBin gMul (xC (.int 2)) (xName 5)) (xC (.int 1))) (aCons (xBin gAdd (xBin gMul (xC (.int 2)) (xName 5)) (xC (.int 2))) (aCons (xBin DL.gSub (xBin gMul (xUn gNeg (xC (.int 2))) (xName 5)) (xC (.int 1))) (aCons (xBin DL.gSub (xBin gMul (xUn gNeg (xC (.int 2))) (xName 5)) (xC (.int 2))) aNil))))))) ((List.range k).map fun (i : Nat) => T.int (0 + (i : Int))) [x0, x1, x2, x3, some ⟨.own, wL []⟩, c5] none =
    some (.nx, [x0, x1, x2, x3, some ⟨.own, wL (hands k)⟩, y5], none) := by
  have hz := sizeLine_eq
  -- from any part on
  have key : ∀ (m j : Nat) (c5 : Option Cell), j + m ≤ 1000 → ∃ y5, forL (gN 5) (sSet 4 (xBin gAdd (xName 4) (xLst (aCons (xBin gAdd (xBin gMul (xC (.int 2)) (xName 5)) (xC (.int 1))) (aCons (xBin gAdd (xBin gMul (xC (.int 2)) (xName 5)) (xC (.int 2))) (aCons (xBin DL.gSub (xBin gMul (xUn gNeg (xC (.int 2))) (xName 5)) (xC (.int 1))) (aCons (xBin DL.gSub (xBin gMul (xUn gNeg (xC (.int 2))) (xName 5)) (xC (.int 2))) aNil))))))) ((List.range' j m).map fun (i : Nat) => T.int (0 + (i : Int))) [x0, x1, x2, x3, some ⟨.own, wL (hands j)⟩, c5] none =
      some (.nx, [x0, x1, x2, x3, some ⟨.own, wL (hands (j + m))⟩, y5], none) := by
    intro m
    induction m with
    | zero => intro j c5 _; exact ⟨c5, rfl⟩
    | succ m ih =>
      intro j c5 hm
      obtain ⟨y5, h⟩ := ih (j + 1) (some ⟨.shr, .int j⟩) (by omega)
      refine ⟨y5, ?_⟩
      rw [List.range'_succ, List.map_cons, forL_cons]
      have h0 : (0 : Int) + (j : Int) = j := by omega
      have m1 : gMul (.int 2) (.int (j : Int)) = some (true, .int (2 * j)) := g_mul (.inl ⟨by decide, by decide⟩)
      have m2 : gMul (.int (-2)) (.int (j : Int)) = some (true, .int (-2 * j)) := g_mul (.inl ⟨by decide, by decide⟩)
      have hadd : gAdd (wL (hands j)) (.lst [.int (2 * (j : Int) + 1), .int (2 * (j : Int) + 2), .int (-2 * (j : Int) - 1), .int (-2 * (j : Int) - 2)]) = some (true, wL (hands (j + 1))) := g_add_wL (a := hands j) (b := [2 * (j : Int) + 1, 2 * j + 2, -2 * j - 1, -2 * j - 2]) (by rw [hands_len]; simp; omega)
      simp only [nk_int, e_gN, keep_shr, Option.bind_some, List.set_cons_succ, List.set_cons_zero, h0, e_set, e_bin, e_name, List.getElem?_cons_succ, List.getElem?_cons_zero, nk_wL, e_lst, e_acons, e_c, m1, kOf_int, g_add, e_un, g_neg, m2, g_sub, e_anil, List.length_cons, List.length_nil, Nat.reduceAdd, sz4, if_true, ts_cons, ts_nil, hadd, kOf_wL, keep_own_wL]
      have e1 : j + (m + 1) = j + 1 + m := by omega
      rw [e1]
      exact h
  intro k c5 hk
  obtain ⟨y5, h⟩ := key k 0 c5 (by omega)
  refine ⟨y5, ?_⟩
  rw [List.range_eq_range']
  rw [Nat.zero_add] at h
  exact h
theorem pair_loop {x0 x1 x2 x3 : Option Cell} {a : List Int} (ha : a.length ≤ 5000) {lo : Int} : ∀ (k : Nat) (c5 : Option Cell), k ≤ 1000 → ∃ y5, forL (gN 5) (sSet 4 (xBin gAdd (xName 4) (xLst (aCons (xName 5) (aCons (xBin DL.gSub (xC (.int 0)) (xName 5)) aNil))))) ((List.range k).map fun (i : Nat) => T.int (lo + (i : Int))) [x0, x1, x2, x3, some ⟨.own, wL a⟩, c5] none =
    some (.nx, [x0, x1, x2, x3, some ⟨.own, wL (a ++ pairsU lo k)⟩, y5], none) := by
  have hz := sizeLine_eq
  have key : ∀ (m j : Nat) (c5 : Option Cell), j + m ≤ 1000 → ∃ y5, forL (gN 5) (sSet 4 (xBin gAdd (xName 4) (xLst (aCons (xName 5) (aCons (xBin DL.gSub (xC (.int 0)) (xName 5)) aNil))))) ((List.range' j m).map fun (i : Nat) => T.int (lo + (i : Int))) [x0, x1, x2, x3, some ⟨.own, wL (a ++ pairsU lo j)⟩, c5] none =
      some (.nx, [x0, x1, x2, x3, some ⟨.own, wL (a ++ pairsU lo (j + m))⟩, y5], none) := by
    intro m
    induction m with
    | zero => intro j c5 _; exact ⟨c5, rfl⟩
    | succ m ih =>
      intro j c5 hm
      obtain ⟨y5, h⟩ := ih (j + 1) (some ⟨.shr, .int (lo + j)⟩) (by omega)
      refine ⟨y5, ?_⟩
      rw [List.range'_succ, List.map_cons, forL_cons]
      have h0 : (0 : Int) - (lo + j) = -(lo + j) := by omega
      have hadd : gAdd (wL (a ++ pairsU lo j)) (.lst [.int (lo + j), .int (-(lo + j))]) = some (true, wL (a ++ pairsU lo (j + 1))) := by
        have := g_add_wL (a := a ++ pairsU lo j) (b := [lo + j, -(lo + j)]) (by rw [List.length_append, pairsU_len]; simp; omega)
        rw [List.append_assoc] at this
        exact this
      simp only [nk_int, e_gN, keep_shr, Option.bind_some, List.set_cons_succ, List.set_cons_zero, e_set, e_bin, e_name, List.getElem?_cons_succ, List.getElem?_cons_zero, nk_wL, e_lst, e_acons, e_c, kOf_int, g_sub, h0, e_anil, List.length_cons, List.length_nil, Nat.reduceAdd, sz2, if_true, ts_cons, ts_nil, hadd, kOf_wL, keep_own_wL]
      have e1 : j + (m + 1) = j + 1 + m := by omega
      rw [e1]
      exact h
  intro k c5 hk
  obtain ⟨y5, h⟩ := key k 0 c5 (by omega)
  refine ⟨y5, ?_⟩
  rw [List.range_eq_range']
  rw [Nat.zero_add] at h
  simpa [pairsU] using h
/-- the plate of h handles and m pairs -/
def typed (h m : Nat) : List Int := hands h ++ pairsU (2 * (h : Int) + 1) m
theorem R_law_type_plate {C : Addr} {n : Nat} {p : List Int} {r h m : Nat} (hp : Plate n p) (hs : p.length ≤ 900) (hr : (FG.rims p).length = r) (e1 : r = m + 1) (e2 : n = 2 * h + m) : g__law_type_plate C [wT p] = some (true, wT (typed h m)) := by
  have hz := sizeLine_eq
  have hlen := hp.length
  have hR := R_law_rims (C := C) hp hs
  have e0 : slots0 ["plate", "rims", "many", "handles", "found", "k"] [wT p] = [some ⟨.shr, wT p⟩, none, none, none, none, none] := rfl
  unfold g__law_type_plate runN b__law_type_plate
  rw [e0]
  have h1 : sParN [1, 2] (aCons (xCall gLen (aCons (xCall (gArity 1 (g__law_rims C)) (aCons (xName 0) aNil)) aNil)) (aCons (xBin gDiv (xCall gLen (aCons (xName 0) aNil)) (xC (.int 2))) aNil)) [some ⟨.shr, wT p⟩, none, none, none, none, none] none =
      some (.nx, [some ⟨.shr, wT p⟩, some ⟨.shr, .int r⟩, some ⟨.shr, .int n⟩, none, none, none], none) := by
    simp [hR, hr, g_div, half_len hp]
  rw [e_seq, h1, Option.bind_some]
  dsimp only
  have hh : (1 + (n : Int) - r) / 2 = h := by omega
  have h2 : sParN [3, 4] (aCons (xBin gDiv (xBin DL.gSub (xBin gAdd (xC (.int 1)) (xName 2)) (xName 1)) (xC (.int 2))) (aCons (xLst aNil) aNil)) [some ⟨.shr, wT p⟩, some ⟨.shr, .int r⟩, some ⟨.shr, .int n⟩, none, none, none] none =
      some (.nx, [some ⟨.shr, wT p⟩, some ⟨.shr, .int r⟩, some ⟨.shr, .int n⟩, some ⟨.shr, .int h⟩, some ⟨.own, wL []⟩, none], none) := by
    simp [g_div, hh, wL_nil']
  rw [e_seq, h2, Option.bind_some]
  dsimp only
  obtain ⟨y5, l1⟩ := hand_loop (x0 := some ⟨.shr, wT p⟩) (x1 := some ⟨.shr, .int r⟩) (x2 := some ⟨.shr, .int n⟩) (x3 := some ⟨.shr, .int h⟩) h none (by omega)
  have hit := it_r1 (S := [some ⟨.shr, wT p⟩, some ⟨.shr, .int r⟩, some ⟨.shr, .int n⟩, some ⟨.shr, .int h⟩, some ⟨.own, wL []⟩, none]) (e := none) (a := aCons (xName 3) aNil) (k := .shr) (n := h) (j := (h : Int)) (by simp) rfl (by omega)
  rw [e_seq, e_for, hit, Option.bind_some]
  dsimp only
  rw [l1, Option.bind_some]
  dsimp only
  obtain ⟨z5, l2⟩ := pair_loop (x0 := some ⟨.shr, wT p⟩) (x1 := some ⟨.shr, .int r⟩) (x2 := some ⟨.shr, .int n⟩) (x3 := some ⟨.shr, .int h⟩) (a := hands h) (by rw [hands_len]; omega) (lo := 2 * (h : Int) + 1) m y5 (by omega)
  have m1 : gMul (.int 2) (.int (h : Int)) = some (true, .int (2 * h)) := g_mul (.inl ⟨by decide, by decide⟩)
  have hit2 := it_r2 (S := [some ⟨.shr, wT p⟩, some ⟨.shr, .int r⟩, some ⟨.shr, .int n⟩, some ⟨.shr, .int h⟩, some ⟨.own, wL (hands h)⟩, y5]) (e := none) (a := aCons (xBin gAdd (xBin gMul (xC (.int 2)) (xName 3)) (xC (.int 1))) (aCons (xBin gAdd (xBin gMul (xC (.int 2)) (xName 3)) (xName 1)) aNil)) (k := .shr) (k2 := .shr) (i := 2 * (h : Int) + 1) (j := 2 * (h : Int) + r) (by simp [m1]) (by omega) (by omega)
  have hm : (2 * (h : Int) + r - (2 * (h : Int) + 1)).toNat = m := by omega
  rw [hm] at hit2
  rw [e_seq, e_for, hit2, Option.bind_some]
  dsimp only
  rw [l2, Option.bind_some]
  simp [endN, typed]
end DL

set_option Elab.async false
set_option linter.all false
set_option maxRecDepth 100000
set_option maxHeartbeats 2000000
namespace DL
open PySem PySem.Spec PyProof.Rows L2
open FG (sub hom Lets flat low und ring rots rmin core Plate Good slideA slideL slideB Nbr nxt slidw ones setw)

section
variable {S : Slots} {s : Src}
@[simp] theorem e_srcI (i : Nat) (f : Src → Int) : xSrcI i f S (some s) = if isSrc S i then some (⟨.shr, .int (f s)⟩, some s) else none := (rfl)
@[simp] theorem e_srcLen (i : Nat) : xSrcLen i S (some s) = if isSrc S i then some (⟨.shr, .int s.cells.length⟩, some s) else none := (rfl)
@[simp] theorem e_srcSet {e : Option Src} (i : Nat) (g : Src → Int → Src) (h : Ex) : sSrcSet i g h S e = (h S e).bind fun z => match z.1.t, z.2 with
  | .int v, some s => if isSrc S i then some (.nx, S, some (g s v)) else none
  | _, _ => none := (rfl)
@[simp] theorem is0 (k : Kd) (r : Slots) : isSrc (some ⟨k, .src⟩ :: r) 0 = true := (rfl)
@[simp] theorem is1 (k : Kd) (a : Option Cell) (r : Slots) : isSrc (a :: some ⟨k, .src⟩ :: r) 1 = true := (rfl)
@[simp] theorem e_callS {e : Option Src} (m : Nat) (g : GS) (a : Ax) : xCallS m g a S e = (a S e).bind fun z => match z.2 with
  | none => none
  | some s => if (ts z.1).length = m then (g (ts z.1) s).bind fun y => some (kOf y.1 (jl z.1) y.2.1, some y.2.2) else none := (rfl)
end
def pickC : Bx := bAnd (bVal (xBin gGt (xName 1) (xC (.int 1)))) (bAnd (bVal (xBin gLt (xSrcI 0 Src.left) (xC (.int 2)))) (bVal (xBin gGt (xSrcLen 0) (xC (.int 0)))))
theorem pick_loop {m : Int} {c2 c3 : Option Cell} : ∀ (k : Nat) (s : Src), s.cells.length < k → ∃ s', whileN pickC (sSrcPop 0) k [some ⟨.shr, .src⟩, some ⟨.shr, .int m⟩, c2, c3] (some s) = some (.nx, [some ⟨.shr, .src⟩, some ⟨.shr, .int m⟩, c2, c3], some s') ∧ s'.cells.length ≤ s.cells.length := by
  intro k
  induction k with
  | zero => intro s h; omega
  | succ k ih =>
    intro s h
    rw [whileN_succ]
    by_cases h1 : 1 < m
    · by_cases h2 : s.left < 2
      · by_cases h3 : (0 : Int) < s.cells.length
        · have hc : pickC [some ⟨.shr, .src⟩, some ⟨.shr, .int m⟩, c2, c3] (some s) = some (true, some s) := by
            have h4 : 0 < s.cells.length := by omega
            simp [pickC, h1, h2, h4]
          obtain ⟨v, hv⟩ : ∃ v, s.cells.getLast? = some v := ⟨_, List.getLast?_eq_some_getLast (by intro z; rw [z] at h3; simp at h3)⟩
          have hb : sSrcPop 0 [some ⟨.shr, .src⟩, some ⟨.shr, .int m⟩, c2, c3] (some s) = some (.nx, [some ⟨.shr, .src⟩, some ⟨.shr, .int m⟩, c2, c3], some { s with cells := s.cells.dropLast, left := v }) := by
            unfold sSrcPop
            dsimp only
            rw [if_pos (is0 _ _), hv]
          obtain ⟨s', e1, e2⟩ := ih { s with cells := s.cells.dropLast, left := v } (by show s.cells.dropLast.length < k; rw [List.length_dropLast]; omega)
          refine ⟨s', ?_, ?_⟩
          · rw [hc, Option.bind_some, if_pos rfl, hb, Option.bind_some]
            exact e1
          · have e2 : s'.cells.length ≤ s.cells.dropLast.length := e2
            rw [List.length_dropLast] at e2
            omega
        · refine ⟨s, ?_, Nat.le_refl _⟩
          have hc : pickC [some ⟨.shr, .src⟩, some ⟨.shr, .int m⟩, c2, c3] (some s) = some (false, some s) := by
            have h4 : ¬ 0 < s.cells.length := by omega
            simp [pickC, h1, h2, h4]
          rw [hc]
          rfl
      · refine ⟨s, ?_, Nat.le_refl _⟩
        have hc : pickC [some ⟨.shr, .src⟩, some ⟨.shr, .int m⟩, c2, c3] (some s) = some (false, some s) := by simp [pickC, h1, h2]
        rw [hc]
        rfl
    · refine ⟨s, ?_, Nat.le_refl _⟩
      have hc : pickC [some ⟨.shr, .src⟩, some ⟨.shr, .int m⟩, c2, c3] (some s) = some (false, some s) := by simp [pickC, h1]
      rw [hc]
      rfl
/-- a source that may be asked -/
def Sk (s : Src) : Prop := s.cells.length ≤ 63
theorem R_pick {C : Addr} {m : Int} {s : Src} (hm : 1 ≤ m ∧ m < 1000000) (hs : Sk s) : ∃ k s', g__law_pick C [.src, .int m] s = some (true, .int k, s') ∧ 0 ≤ k ∧ k < m ∧ Sk s' := by
  unfold Sk at hs
  obtain ⟨s1, hl, hc⟩ := pick_loop (m := m) (c2 := none) (c3 := none) 1000 s (by omega)
  have e0 : slots0 ["source", "many", "left", "mixed"] [.src, .int m] = [some ⟨.shr, .src⟩, some ⟨.shr, .int m⟩, none, none] := rfl
  have hmx : (if m > 1 then m else 1) = m := by split <;> omega
  have hmx2 : gMx2 true [.int 1, .int m] = some (true, .int m) := by rw [g_mx2, hmx]
  have hdiv : ∀ a, gDiv (.int a) (.int m) = some (true, .int (a / m)) := fun a => g_div (by omega) (by omega)
  have hmod : ∀ a, gMod (.int a) (.int m) = some (true, .int (a % m)) := fun a => g_mod (by omega)
  have run : g__law_pick C [.src, .int m] s = endS ((whileN pickC (sSrcPop 0) 1000 [some ⟨.shr, .src⟩, some ⟨.shr, .int m⟩, none, none] (some s)).bind fun z => match z with
    | (.nx, S1, e1) => (sSeq (sSet 2 (xSrcI 0 Src.left)) (sSeq (sIf (bOr (bVal (xBin gLt (xName 1) (xC (.int 2)))) (bVal (xBin gGt (xName 2) (xC (.int 1))))) (sSeq (sSrcSet 0 (fun s v => { s with left := v }) (xBin gDiv (xName 2) (xCall (gMx2 true) (aCons (xC (.int 1)) (aCons (xName 1) aNil))))) (sRet (xBin gMod (xCall gInt1 (aCons (xName 2) aNil)) (xCall (gMx2 true) (aCons (xC (.int 1)) (aCons (xName 1) aNil)))))) sNx) (sSeq (sSrcSet 0 (fun s v => { s with turn := v }) (xBin gAdd (xSrcI 0 Src.turn) (xC (.int 1)))) (sSeq (sSet 3 (xBin gMod (xCall gInt1 (aCons (xBin gAdd (xSrcI 0 Src.mixed) (xBin gMul (xSrcI 0 Src.turn) (xC (.int 104729)))) aNil)) (xC (.int 998244353)))) (sSeq (sSet 3 (xBin gMod (xCall gInt1 (aCons (xBin gAdd (xBin gMul (xName 3) (xName 3)) (xBin gMul (xSrcI 0 Src.turn) (xC (.int 17)))) aNil)) (xC (.int 2147483647)))) (sSeq (sSrcSet 0 (fun s v => { s with mixed := v }) (xName 3)) (sRet (xBin gMod (xCall gInt1 (aCons (xBin gDiv (xName 3) (xC (.int 16))) aNil)) (xName 1)))))))) ) S1 e1
    | (fl, S1, e1) => some (fl, S1, e1)) := by
    unfold g__law_pick runS b__law_pick
    rw [e0, e_seq]
    rfl
  rw [run, hl, Option.bind_some]
  dsimp only
  by_cases h : m < 2 ∨ 1 < s1.left
  · refine ⟨s1.left % m, { s1 with left := s1.left / m }, ?_, Int.emod_nonneg _ (by omega), Int.emod_lt_of_pos _ (by omega), by show s1.cells.length ≤ 63; omega⟩
    have hcond : bOr (bVal (xBin gLt (xName 1) (xC (.int 2)))) (bVal (xBin gGt (xName 2) (xC (.int 1)))) [some ⟨.shr, .src⟩, some ⟨.shr, .int m⟩, some ⟨.shr, .int s1.left⟩, none] (some s1) = some (true, some s1) := by
      by_cases h1 : m < 2
      · simp [h1]
      · simp [h1, h.resolve_left h1]
    have hset : sSet 2 (xSrcI 0 Src.left) [some ⟨.shr, .src⟩, some ⟨.shr, .int m⟩, none, none] (some s1) = some (.nx, [some ⟨.shr, .src⟩, some ⟨.shr, .int m⟩, some ⟨.shr, .int s1.left⟩, none], some s1) := by simp
    rw [e_seq, hset, Option.bind_some]
    dsimp only
    rw [e_seq, e_if, hcond, Option.bind_some, if_pos rfl]
    simp only [e_seq, e_srcSet, e_bin, e_name, List.getElem?_cons_succ, List.getElem?_cons_zero, nk_int, Option.bind_some, e_call, e_acons, e_c, e_anil, ts_cons, ts_nil, hmx2, kOf_int, hdiv, is0, if_true, e_ret, g_int1, hmod, endS]
    rfl
  · have hm2 : ¬ m < 2 := fun z => h (.inl z)
    have hl2 : ¬ 1 < s1.left := fun z => h (.inr z)
    have hcond : bOr (bVal (xBin gLt (xName 1) (xC (.int 2)))) (bVal (xBin gGt (xName 2) (xC (.int 1)))) [some ⟨.shr, .src⟩, some ⟨.shr, .int m⟩, some ⟨.shr, .int s1.left⟩, none] (some s1) = some (false, some s1) := by simp [hm2, hl2]
    have hset : sSet 2 (xSrcI 0 Src.left) [some ⟨.shr, .src⟩, some ⟨.shr, .int m⟩, none, none] (some s1) = some (.nx, [some ⟨.shr, .src⟩, some ⟨.shr, .int m⟩, some ⟨.shr, .int s1.left⟩, none], some s1) := by simp
    have t1 : ∀ a : Int, gMul (.int a) (.int 104729) = some (true, .int (a * 104729)) := fun a => g_mul (.inr ⟨by decide, by decide⟩)
    have t2 : ∀ a : Int, gMul (.int a) (.int 17) = some (true, .int (a * 17)) := fun a => g_mul (.inr ⟨by decide, by decide⟩)
    have t3 : ∀ a : Int, gMod (.int a) (.int 998244353) = some (true, .int (a % 998244353)) := fun a => g_mod (by decide)
    have t4 : ∀ a : Int, gMod (.int a) (.int 2147483647) = some (true, .int (a % 2147483647)) := fun a => g_mod (by decide)
    have t5 : ∀ a : Int, gMul (.int (a % 998244353)) (.int (a % 998244353)) = some (true, .int (a % 998244353 * (a % 998244353))) := fun a => g_mul (.inl (by omega))
    have t6 : ∀ a : Int, gDiv (.int a) (.int 16) = some (true, .int (a / 16)) := fun a => g_div (by decide) (by decide)
    rw [e_seq, hset, Option.bind_some]
    dsimp only
    rw [e_seq, e_if, hcond, Option.bind_some, if_neg (by simp), e_nx, Option.bind_some]
    dsimp only
    refine ⟨((s1.mixed + (s1.turn + 1) * 104729) % 998244353 * ((s1.mixed + (s1.turn + 1) * 104729) % 998244353) + (s1.turn + 1) * 17) % 2147483647 / 16 % m, { s1 with turn := s1.turn + 1, mixed := ((s1.mixed + (s1.turn + 1) * 104729) % 998244353 * ((s1.mixed + (s1.turn + 1) * 104729) % 998244353) + (s1.turn + 1) * 17) % 2147483647 }, ?_, Int.emod_nonneg _ (by omega), Int.emod_lt_of_pos _ (by omega), by show s1.cells.length ≤ 63; omega⟩
    simp only [e_seq, e_srcSet, e_bin, e_name, e_srcI, List.getElem?_cons_succ, List.getElem?_cons_zero, nk_int, Option.bind_some, e_call, e_acons, e_c, e_anil, ts_cons, ts_nil, kOf_int, is0, if_true, e_ret, g_int1, hmod, endS, e_set, keep_shr, List.set_cons_succ, List.set_cons_zero, t1, t2, t3, t4, t5, t6, g_add]
    rfl
/-! ### what is drawn -/
theorem R_law_of {C : Addr} {t : T} {n : Nat} {s : Src} (h0 : nk .shr t = ⟨.shr, t⟩) (h1 : gLen [t] = some (true, .int n)) (hn : 1 ≤ n ∧ n < 1000000) (hs : Sk s) : ∃ (k : Int) (s' : Src), 0 ≤ k ∧ k < n ∧ Sk s' ∧ ∀ (x : T), gSubX t (.int k) = some (false, x) → x.flat = true → g__law_of C [.src, t] s = some (true, x, s') := by
  obtain ⟨k, s', e, k1, k2, k3⟩ := R_pick (C := C) (m := (n : Int)) (by omega) hs
  refine ⟨k, s', k1, k2, k3, fun x hx hf => ?_⟩
  have e0 : slots0 ["source", "some"] [.src, t] = [some ⟨.shr, .src⟩, some ⟨.shr, t⟩] := rfl
  unfold g__law_of runS b__law_of
  rw [e0]
  have hk : kOf false (jk (match Kd.shr with | .own => .vw | q => q) Kd.shr) x = ⟨.shr, x⟩ := kOf_flat hf
  simp only [e_ret, e_bin, e_name, List.getElem?_cons_succ, List.getElem?_cons_zero, h0, Option.bind_some, e_callS, e_acons, nk_src, e_call, e_anil, ts_cons, ts_nil, h1, kOf_int, List.length_cons, List.length_nil, Nat.reduceAdd, if_true, e, hx, kOf_flat hf, endS, hf, Bool.or_true]
theorem erase_map {α β : Type} (f : α → β) : ∀ (w : List α) (i : Nat), (w.map f).eraseIdx i = (w.eraseIdx i).map f
  | [], _ => rfl
  | _ :: _, 0 => rfl
  | x :: w, i + 1 => by
    show f x :: (w.map f).eraseIdx i = f x :: (w.eraseIdx i).map f
    rw [erase_map f w i]
theorem erase_perm {α : Type} : ∀ (w : List α) (i : Nat) (h : i < w.length), (w[i] :: w.eraseIdx i).Perm w
  | [], _, h => by simp at h
  | _ :: _, 0, _ => .refl _
  | x :: w, i + 1, h => by
    have := erase_perm w i (by simpa using h)
    exact (List.Perm.swap _ _ _).trans (List.Perm.cons x this)
theorem mix_int {C : Addr} : ∀ (n : Nat) (w acc : List Int) (s : Src), w.length = n → n < 1000000 → acc.length + n < sizeLine → Sk s → ∃ w' s', w'.Perm w ∧ Sk s' ∧ mixL (g__law_pick C) n (w.map T.int) s (acc.map T.int) = some ((acc ++ w').map T.int, s')
  | 0, w, acc, s, h, _, _, hs => by
    have : w = [] := List.eq_nil_of_length_eq_zero h
    subst this
    exact ⟨[], s, .nil, hs, by simp [mixL]⟩
  | n + 1, w, acc, s, h, hn, ha, hs => by
    obtain ⟨k, s1, e, k1, k2, k3⟩ := R_pick (C := C) (m := (w.length : Int)) (by omega) hs
    have hk : k.toNat < w.length := by omega
    have he : (w.map T.int).eraseIdx k.toNat = (w.eraseIdx k.toNat).map T.int := erase_map T.int w k.toNat
    obtain ⟨w', s', p, ss, ih⟩ := mix_int (C := C) n (w.eraseIdx k.toNat) (acc ++ [w[k.toNat]]) s1 (by rw [List.length_eraseIdx, if_pos hk]; omega) (by omega) (by simp; omega) k3
    refine ⟨w[k.toNat] :: w', s', ?_, ss, ?_⟩
    · refine (List.Perm.cons _ p).trans ?_
      exact erase_perm w k.toNat hk
    · unfold mixL
      have h1 : (w.map T.int).length = w.length := List.length_map _
      rw [h1, e]
      simp only [Option.bind_some]
      rw [if_pos (by omega)]
      have h2 : seqIndex? k w.length = some k.toNat := by
        have : ixN w.length k = some k.toNat := by
          have e1 : k = (k.toNat : Int) := by omega
          rw [e1]
          unfold ixN
          rw [if_pos (by omega), if_pos (by omega)]
        exact (ixN_seq this).1
      rw [h2, Option.bind_some, List.getElem?_map, List.getElem?_eq_getElem hk]
      simp only [Option.map_some, Option.bind_some]
      rw [List.length_map, if_pos (by omega), he]
      have : acc.map T.int ++ [T.int w[k.toNat]] = (acc ++ [w[k.toNat]]).map T.int := by simp
      rw [this, ih]
      simp
theorem R_mixed {C : Addr} {w : List Int} {s : Src} (hw : w.length < 1000) (hs : Sk s) : ∃ w' s', w'.Perm w ∧ Sk s' ∧ g__law_mixed C [.src, wL w] s = some (true, wL w', s') := by
  have hz := sizeLine_eq
  obtain ⟨w', s', p, ss, h⟩ := mix_int (C := C) w.length w [] s rfl (by omega) (by simp; omega) hs
  refine ⟨w', s', p, ss, ?_⟩
  have e0 : slots0 ["source", "things", "rest", "lap"] [.src, wL w] = [some ⟨.shr, .src⟩, some ⟨.shr, wL w⟩, none, none] := rfl
  unfold g__law_mixed runS b__law_mixed
  rw [e0]
  have h1 : sSet 2 (xCall gList (aCons (xName 1) aNil)) [some ⟨.shr, .src⟩, some ⟨.shr, wL w⟩, none, none] (some s) = some (.nx, [some ⟨.shr, .src⟩, some ⟨.shr, wL w⟩, some ⟨.own, wL w⟩, none], some s) := by simp
  rw [e_seq, h1, Option.bind_some]
  dsimp only
  have h2 : sMixed (g__law_pick C) [some ⟨.shr, .src⟩, some ⟨.shr, wL w⟩, some ⟨.own, wL w⟩, none] (some s) = some (.ret ⟨.own, wL w'⟩, [some ⟨.shr, .src⟩, some ⟨.shr, wL w⟩, none, none], some s') := by
    show (if (w.map T.int).all T.flat = true ∧ (w.map T.int).length ≤ sizeLine then (mixL (g__law_pick C) (w.map T.int).length (w.map T.int) s []).map _ else none) = _
    rw [if_pos ⟨all_int w, by rw [List.length_map]; omega⟩, List.length_map]
    have h : mixL (g__law_pick C) w.length (w.map T.int) s [] = some (([] ++ w').map T.int, s') := h
    rw [h]
    rfl
  rw [h2]
  rfl
/-- the letters of so many bands -/
def lettersOf (n : Nat) : List Int := ((List.range (2 * n + 1)).map fun (k : Nat) => -(n : Int) + k).filter fun x => decide (x ≠ 0)
theorem lettersOf_plate (n : Nat) : Plate n (lettersOf n) := by
  unfold lettersOf
  refine ⟨List.Pairwise.filter _ (List.Pairwise.map _ (fun u v q z => q (by omega)) List.nodup_range), fun x => ?_⟩
  rw [List.mem_filter, List.mem_map, decide_eq_true_eq]
  constructor
  · rintro ⟨⟨k, hk, rfl⟩, h⟩
    have := List.mem_range.mp hk
    exact ⟨h, by omega, by omega⟩
  · rintro ⟨h1, h2, h3⟩
    exact ⟨⟨(x + n).toNat, List.mem_range.mpr (by omega), by omega⟩, h1⟩
theorem letters_lc {S : Slots} {a : Ax} {v : Nat} {n : Nat} {e : Option Src} {k k2 : Kd} {i j : Int} (ha : a S e = some ([⟨k, .int i⟩, ⟨k2, .int j⟩], e)) (hi : i = -(n : Int)) (hj : j = n + 1) (hn : n ≤ 1000) (hv : v < S.length) :
    xLc (iR2 a) (gN v) (bVal (xBin (gEqX true) (xName v) (xC (.int 0)))) (xName v) [v] S e = some (⟨.own, wL (lettersOf n)⟩, e) := by
  have hz := sizeLine_eq
  have hcnt : (j - i).toNat = 2 * n + 1 := by omega
  have it := it_r2 (S := S) (e := e) (a := a) ha (by omega) (by omega)
  rw [hcnt] at it
  have hset : ∀ q : Int, ((S.set v none).set v (some ⟨.shr, .int q⟩))[v]? = some (some ⟨.shr, .int q⟩) := fun q => by rw [List.getElem?_set_self (by simpa using hv)]
  have := lc_gen (E := fun (q : Nat) => T.int (i + q)) (O := T.int) (G := fun (q : Nat) => i + q) (P := fun (q : Nat) => decide (i + (q : Int) ≠ 0)) (fun _ => rfl) (it := iR2 a) (g := gN v) (c := bVal (xBin (gEqX true) (xName v) (xC (.int 0)))) (f := xName v) (S := S) (vs := [v]) (e := e)
    (Sx := fun q => (S.set v none).set v (some ⟨.shr, .int (i + q)⟩)) (xs := List.range (2 * n + 1)) it (fun q _ => by simp) (fun q _ => by
      simp only [e_bval, e_bin, e_name, hset, Option.bind_some, nk_int, e_c, eqX_int, kOf_bl, if_true]
      simp) (fun q _ _ => by
      simp only [e_name, hset, nk_int]) (by rw [List.length_range]; omega)
  rw [this]
  congr 3
  show T.lst _ = T.lst ((lettersOf n).map T.int)
  unfold lettersOf
  rw [List.filter_map, List.map_map]
  congr 1
  subst hi
  rfl
theorem R_plate {C : Addr} {m : Nat} {s : Src} (hm : 1 ≤ m ∧ m ≤ 100) (hs : Sk s) : ∃ n p s', 1 ≤ n ∧ n ≤ m ∧ Plate n p ∧ Sk s' ∧ g__law_plate C [.src, .int m] s = some (true, wT p, s') := by
  obtain ⟨k, s1, e, k1, k2, k3⟩ := R_pick (C := C) (m := (m : Int)) (by omega) hs
  have hlen := (lettersOf_plate (k.toNat + 1)).length
  obtain ⟨p, s2, pp, ss, h⟩ := R_mixed (C := C) (w := lettersOf (k.toNat + 1)) (s := s1) (by omega) k3
  refine ⟨k.toNat + 1, p, s2, by omega, by omega, (lettersOf_plate _).perm pp, ss, ?_⟩
  have e0 : slots0 ["source", "most", "many", "k"] [.src, .int m] = [some ⟨.shr, .src⟩, some ⟨.shr, .int m⟩, none, none] := rfl
  unfold g__law_plate runS b__law_plate
  rw [e0]
  have h1 : sSet 2 (xBin gAdd (xC (.int 1)) (xCallS 2 (g__law_pick C) (aCons (xName 0) (aCons (xName 1) aNil)))) [some ⟨.shr, .src⟩, some ⟨.shr, .int m⟩, none, none] (some s) = some (.nx, [some ⟨.shr, .src⟩, some ⟨.shr, .int m⟩, some ⟨.shr, .int (1 + k)⟩, none], some s1) := by simp [e]
  rw [e_seq, h1, Option.bind_some]
  dsimp only
  have h2 := letters_lc (S := [some ⟨.shr, .src⟩, some ⟨.shr, .int m⟩, some ⟨.shr, .int (1 + k)⟩, none]) (a := aCons (xBin DL.gSub (xC (.int 0)) (xName 2)) (aCons (xBin gAdd (xName 2) (xC (.int 1))) aNil)) (v := 3) (n := k.toNat + 1) (e := some s1) (k := .shr) (k2 := .shr) (i := 0 - (1 + k)) (j := 1 + k + 1) (by simp) (by omega) (by omega) (by omega) (by simp)
  simp only [e_ret, e_call, e_acons, e_callS, e_name, List.getElem?_cons_zero, nk_src, Option.bind_some, h2, e_anil, ts_cons, ts_nil, List.length_cons, List.length_nil, Nat.reduceAdd, if_true, h, kOf_wL, g_tuple_wL, kOf_wT, endS, f_wT, Bool.or_true]
/-- letters drawn one behind another -/
theorem drawn_loop {C : Addr} {S0 : Slots} {n : Nat} {L : List Int} (hL : ∀ x ∈ L, x ≠ 0 ∧ -(n : Int) ≤ x ∧ x ≤ n) (h1 : 1 ≤ L.length) (h2 : L.length < 1000000) {f : Ex} {v : Nat} {E : Nat → T} {kd : Kd} (hf : ∀ (q : Nat) (s : Src), f (S0.set v (some ⟨.shr, E q⟩)) (some s) = xCallS 2 (g__law_of C) (fun _ e => some ([⟨.shr, .src⟩, ⟨kd, wL L⟩], e)) [] (some s)) (hE : ∀ q, (E q).flat = true) :
    ∀ (ks : List Nat) (w : List Int) (s : Src), w.length + ks.length ≤ 1000 → Lets n w → Sk s → ∃ w' s', Lets n w' ∧ w'.length = w.length + ks.length ∧ Sk s' ∧ compL (gN v) bYes f S0 (ks.map E) (some s) (w.map fun x => (⟨.shr, .int x⟩ : Cell)) = some (w'.map fun x => (⟨.shr, .int x⟩ : Cell), some s')
  | [], w, s, _, hw, hs => ⟨w, s, hw, by simp, hs, by rw [List.map_nil, compL]⟩
  | k :: ks, w, s, hl, hw, hs => by
    have hz := sizeLine_eq
    rw [List.length_cons] at hl
    obtain ⟨j, s1, j1, j2, hs1, hof⟩ := R_law_of (C := C) (t := wL L) (n := L.length) rfl (g_len_wL L) (by omega) hs
    have hj : j.toNat < L.length := by omega
    have hat : atI L j = some L[j.toNat] := by
      have hat0 := atI_nat (xs := L) (j := j.toNat) (v := L[j.toNat]) (List.getElem?_eq_getElem hj)
      rw [Int.toNat_of_nonneg j1] at hat0
      exact hat0
    have h3 := hof (.int L[j.toNat]) (by rw [g_sub_wL, hat]; rfl) rfl
    obtain ⟨w', s', a, b, c, d⟩ := drawn_loop (C := C) hL h1 h2 hf hE ks (w ++ [L[j.toNat]]) s1 (by simp; omega) (hw.app fun x m => by rw [List.mem_singleton.mp m]; exact hL _ (List.getElem_mem hj)) hs1
    refine ⟨w', s', a, by rw [b]; simp; omega, c, ?_⟩
    rw [List.map_cons, compL]
    have hg : gN v (nk .shr (E k)) S0 (some s) = some (S0.set v (some ⟨.shr, E k⟩), some s) := by
      rw [nk_flat (hE k), e_gN, keep_shr]
      rfl
    simp only [hg, Option.bind_eq_bind, Option.bind_some, e_yes, if_true, hf, e_callS, ts_cons, ts_nil, List.length_cons, List.length_nil, Nat.reduceAdd, h3, kOf_int]
    rw [if_pos (by rw [List.length_map]; omega)]
    rw [List.map_append] at d
    exact d
theorem R_drawn {C : Addr} {n m : Nat} {p : List Int} {s : Src} (hp : Plate n p) (hn : 1 ≤ n ∧ n ≤ 100) (hm : 1 ≤ m ∧ m ≤ 100) (hs : Sk s) : ∃ w s', Lets n w ∧ w.length ≤ m ∧ Sk s' ∧ g__law_drawn_ring C [.src, wT p, .int m] s = some (true, wT (ring w), s') := by
  have hz := sizeLine_eq
  have hlen := hp.length
  obtain ⟨k, s1, e, k1, k2, k3⟩ := R_pick (C := C) (m := (m : Int)) (by omega) hs
  have hLp := lettersOf_plate n
  have hLl := hLp.length
  have e0 : slots0 ["source", "plate", "most", "bands", "letters", "k"] [.src, wT p, .int m] = [some ⟨.shr, .src⟩, some ⟨.shr, wT p⟩, some ⟨.shr, .int m⟩, none, none, none] := rfl
  obtain ⟨w, s', a, b, c, d⟩ := drawn_loop (C := C) (S0 := [some ⟨.shr, .src⟩, some ⟨.shr, wT p⟩, some ⟨.shr, .int m⟩, some ⟨.shr, .int n⟩, some ⟨.own, wL (lettersOf n)⟩, none]) (n := n) (L := lettersOf n) (fun x mx => (hLp.mem x).mp mx) (by omega) (by omega) (f := xCallS 2 (g__law_of C) (aCons (xName 0) (aCons (xName 4) aNil))) (v := 5) (E := fun (i : Nat) => T.int (0 + (i : Int))) (kd := .vw) (fun q s => by simp) (fun _ => rfl) (List.range (k.toNat + 1)) [] s1 (by simp; omega) (fun x mx => by cases mx) k3
  rw [List.length_range] at b
  refine ⟨w, s', a, by simp at b; omega, c, ?_⟩
  unfold g__law_drawn_ring runS b__law_drawn_ring
  rw [e0]
  have h1 : sSet 3 (xBin gDiv (xCall gLen (aCons (xName 1) aNil)) (xC (.int 2))) [some ⟨.shr, .src⟩, some ⟨.shr, wT p⟩, some ⟨.shr, .int m⟩, none, none, none] (some s) = some (.nx, [some ⟨.shr, .src⟩, some ⟨.shr, wT p⟩, some ⟨.shr, .int m⟩, some ⟨.shr, .int n⟩, none, none], some s) := by simp [g_div, half_len hp]
  rw [e_seq, h1, Option.bind_some]
  dsimp only
  have h2 := letters_lc (S := [some ⟨.shr, .src⟩, some ⟨.shr, wT p⟩, some ⟨.shr, .int m⟩, some ⟨.shr, .int n⟩, none, none]) (a := aCons (xBin DL.gSub (xC (.int 0)) (xName 3)) (aCons (xBin gAdd (xName 3) (xC (.int 1))) aNil)) (v := 5) (n := n) (e := some s) (k := .shr) (k2 := .shr) (i := 0 - (n : Int)) (j := (n : Int) + 1) (by simp) (by omega) rfl (by omega) (by simp)
  rw [e_seq, e_set, h2, Option.bind_some, keep_own_wL, Option.bind_some, Option.bind_some]
  dsimp only [List.set_cons_succ, List.set_cons_zero]
  have hit : iR1 (aCons (xBin gAdd (xC (.int 1)) (xCallS 2 (g__law_pick C) (aCons (xName 0) (aCons (xName 2) aNil)))) aNil) [some ⟨.shr, .src⟩, some ⟨.shr, wT p⟩, some ⟨.shr, .int m⟩, some ⟨.shr, .int n⟩, some ⟨.own, wL (lettersOf n)⟩, none] (some s) = some ((List.range (k.toNat + 1)).map fun (i : Nat) => T.int (0 + (i : Int)), some s1) := by
    have ha : aCons (xBin gAdd (xC (.int 1)) (xCallS 2 (g__law_pick C) (aCons (xName 0) (aCons (xName 2) aNil)))) aNil [some ⟨.shr, .src⟩, some ⟨.shr, wT p⟩, some ⟨.shr, .int m⟩, some ⟨.shr, .int n⟩, some ⟨.own, wL (lettersOf n)⟩, none] (some s) = some ([⟨.shr, .int (1 + k)⟩], some s1) := by simp [e]
    have hr : rg1 (ts [⟨.shr, .int (1 + k)⟩]) = some (rngT 0 (k.toNat + 1)) := rg1_of (by omega) (by omega)
    rw [e_ir1, ha, Option.bind_some, hr]
    rfl
  have hlc : xLc (iR1 (aCons (xBin gAdd (xC (.int 1)) (xCallS 2 (g__law_pick C) (aCons (xName 0) (aCons (xName 2) aNil)))) aNil)) (gN 5) bYes (xCallS 2 (g__law_of C) (aCons (xName 0) (aCons (xName 4) aNil))) [5] [some ⟨.shr, .src⟩, some ⟨.shr, wT p⟩, some ⟨.shr, .int m⟩, some ⟨.shr, .int n⟩, some ⟨.own, wL (lettersOf n)⟩, none] (some s) = some (⟨.own, wL w⟩, some s') := by
    rw [e_lc, hit, Option.bind_some]
    simp only [wipe_cons, wipe_nil, List.set_cons_succ, List.set_cons_zero]
    have d : compL (gN 5) bYes (xCallS 2 (g__law_of C) (aCons (xName 0) (aCons (xName 4) aNil))) [some ⟨.shr, .src⟩, some ⟨.shr, wT p⟩, some ⟨.shr, .int m⟩, some ⟨.shr, .int n⟩, some ⟨.own, wL (lettersOf n)⟩, none] ((List.range (k.toNat + 1)).map fun (i : Nat) => T.int (0 + (i : Int))) (some s1) [] = some (w.map fun x => (⟨.shr, .int x⟩ : Cell), some s') := d
    rw [d, Option.bind_some]
    have hj : jl (w.map fun x => (⟨.shr, .int x⟩ : Cell)) = .own := jl_all fun c m => by
      obtain ⟨x, _, rfl⟩ := List.mem_map.mp m
      rfl
    have ht : ts (w.map fun x => (⟨.shr, .int x⟩ : Cell)) = w.map T.int := by
      unfold ts
      rw [List.map_map]
      rfl
    rw [hj, ht]
    rfl
  have hring : g__law_ring C [wL w] = some (true, wT (ring w)) := R_law_ringL (by simp at b; omega)
  simp only [e_ret, e_call, e_acons, hlc, Option.bind_some, e_anil, ts_cons, ts_nil, ar1, hring, kOf_wT, endS, f_wT, Bool.or_true]
end DL

set_option Elab.async false
set_option linter.all false
set_option maxRecDepth 100000
set_option maxHeartbeats 2000000
namespace DL
open PySem PySem.Spec PyProof.Rows L2
open FG (sub hom Lets flat low und ring rots rmin core Plate Good slideA slideL slideB Nbr nxt slidw ones setw Sl slideS WF)

def flds : List Str := ["plate", "words", "backs"]
def objT (C : Addr) (s : Sl) : T := .obj C flds [wT s.p, rL s.ws, rL s.bs]
@[simp] theorem nk_objT (C : Addr) (k : Kd) (s : Sl) : nk k (objT C s) = ⟨k, objT C s⟩ := (rfl)
@[simp] theorem keep_objT (C : Addr) (s : Sl) : keep ⟨.own, objT C s⟩ = some ⟨.own, objT C s⟩ := (rfl)
section
variable {C : Addr} {s : Sl} {r : Slots} {e : Option Src}
theorem fldV {k : Kd} {f : Str} {t : T} (hk : k ≠ .shr) (h : fldT flds [wT s.p, rL s.ws, rL s.bs] f = some t) {fe : Ex} {S : Slots} (hf : fe S e = some (⟨k, objT C s⟩, e)) : xFld C f fe S e = some (nk .vw t, e) := by
  unfold xFld
  rw [hf]
  show (if C = C then (fldT flds [wT s.p, rL s.ws, rL s.bs] f).map _ else none) = _
  rw [if_pos rfl, h]
  cases k with
  | own => rfl
  | shr => exact absurd rfl hk
  | vw => rfl
theorem fldS {f : Str} {t : T} (h : fldT flds [wT s.p, rL s.ws, rL s.bs] f = some t) {fe : Ex} {S : Slots} (hf : fe S e = some (⟨.shr, objT C s⟩, e)) : xFld C f fe S e = some (nk .shr t, e) := by
  unfold xFld
  rw [hf]
  show (if C = C then (fldT flds [wT s.p, rL s.ws, rL s.bs] f).map _ else none) = _
  rw [if_pos rfl, h]
  rfl
theorem fp : fldT flds [wT s.p, rL s.ws, rL s.bs] "plate" = some (wT s.p) := rfl
theorem fw : fldT flds [wT s.p, rL s.ws, rL s.bs] "words" = some (rL s.ws) := by
  unfold flds
  rw [fldT, if_neg (by decide), fldT, if_pos rfl]
theorem fb : fldT flds [wT s.p, rL s.ws, rL s.bs] "backs" = some (rL s.bs) := by
  unfold flds
  rw [fldT, if_neg (by decide), fldT, if_neg (by decide), fldT, if_pos rfl]
theorem gfp {k : Kd} {p : List Int} : gFld 0 C "plate" ⟨k, wT p⟩ (some ⟨.own, objT C s⟩ :: r) e = some (some ⟨.own, objT C { s with p := p }⟩ :: r, e) := by
  show (if C = C ∧ okItem ⟨k, wT p⟩ = true ∧ flds.length < 1000 then some (some ⟨.own, .obj C (putN "plate" flds) (putT "plate" (wT p) flds [wT s.p, rL s.ws, rL s.bs])⟩ :: r, e) else none) = _
  rw [if_pos ⟨rfl, ok_wT _ _, by decide⟩]
  rfl
theorem gfw {ws : List (List Int)} : gFld 0 C "words" ⟨.own, rL ws⟩ (some ⟨.own, objT C s⟩ :: r) e = some (some ⟨.own, objT C { s with ws := ws }⟩ :: r, e) := by
  show (if C = C ∧ okItem ⟨.own, rL ws⟩ = true ∧ flds.length < 1000 then some (some ⟨.own, .obj C (putN "words" flds) (putT "words" (rL ws) flds [wT s.p, rL s.ws, rL s.bs])⟩ :: r, e) else none) = _
  rw [if_pos ⟨rfl, ok_own _, by decide⟩]
  have h1 : putN "words" flds = flds := by
    unfold flds
    rw [putN, if_neg (by decide), putN, if_pos rfl]
  have h2 : putT "words" (rL ws) flds [wT s.p, rL s.ws, rL s.bs] = [wT s.p, rL ws, rL s.bs] := by
    unfold flds
    rw [putT, if_neg (by decide), putT, if_pos rfl]
  rw [h1, h2]
  rfl
theorem putT_b {bs : List (List Int)} : putT "backs" (rL bs) flds [wT s.p, rL s.ws, rL s.bs] = [wT s.p, rL s.ws, rL bs] := by
  unfold flds
  rw [putT, if_neg (by decide), putT, if_neg (by decide), putT, if_pos rfl]
theorem gixb {k kc : Kd} {x : Int} {j : Nat} {w : List Int} {fi : Ex} (hf : fi (some ⟨.own, objT C s⟩ :: r) e = some (⟨k, .int x⟩, e)) (hx : x = j) (hj : j < s.bs.length) : gIxF 0 C "backs" fi ⟨kc, wT w⟩ (some ⟨.own, objT C s⟩ :: r) e = some (some ⟨.own, objT C { s with bs := s.bs.set j w }⟩ :: r, e) := by
  subst hx
  have fb' := fb (s := s)
  unfold objT at hf ⊢
  unfold gIxF
  rw [hf]
  simp only [Option.bind_eq_bind, Option.bind_some, List.getElem?_cons_zero, fb']
  unfold rL
  dsimp only
  rw [if_pos (by rw [all_wT]; exact ⟨trivial, rfl⟩), List.length_map]
  have : ixN s.bs.length (j : Int) = some j := by
    unfold ixN
    rw [if_pos (by omega), if_pos (by omega)]
    simp
  rw [this, Option.map_some]
  have h2 : T.lst ((s.bs.map wT).set j (wT w)) = rL (s.bs.set j w) := by
    unfold rL
    rw [List.map_set]
  have h3 := putT_b (s := s) (bs := s.bs.set j w)
  unfold rL at h2 h3
  rw [h2, h3]
  rfl
/-- self's fields, in a method that changes it -/
@[simp] theorem sP : xFld C "plate" (xName 0) (some ⟨.own, objT C s⟩ :: r) e = some (⟨.shr, wT s.p⟩, e) := fldV (k := .vw) (fun z => nomatch z) fp (by simp)
@[simp] theorem sW : xFld C "words" (xName 0) (some ⟨.own, objT C s⟩ :: r) e = some (⟨.vw, rL s.ws⟩, e) := fldV (k := .vw) (fun z => nomatch z) fw (by simp)
@[simp] theorem sB : xFld C "backs" (xName 0) (some ⟨.own, objT C s⟩ :: r) e = some (⟨.vw, rL s.bs⟩, e) := fldV (k := .vw) (fun z => nomatch z) fb (by simp)
@[simp] theorem tP : xFld C "plate" (xName 0) (some ⟨.shr, objT C s⟩ :: r) e = some (⟨.shr, wT s.p⟩, e) := fldS fp (by simp)
@[simp] theorem tW : xFld C "words" (xName 0) (some ⟨.shr, objT C s⟩ :: r) e = some (⟨.shr, rL s.ws⟩, e) := fldS fw (by simp)
@[simp] theorem tB : xFld C "backs" (xName 0) (some ⟨.shr, objT C s⟩ :: r) e = some (⟨.shr, rL s.bs⟩, e) := fldS fb (by simp)
end
theorem flat_len {f : Int → List Int} {m : Nat} (h : ∀ x, (f x).length ≤ m) : ∀ w : List Int, (flat f w).length ≤ m * w.length
  | [] => by simp [FG.flat_nil]
  | x :: w => by
    have := flat_len h w
    have := h x
    rw [FG.flat_cons, List.length_append, List.length_cons, Nat.mul_add]
    omega
theorem sub_len {ws : List (List Int)} {m : Nat} (h : ∀ w ∈ ws, w.length ≤ m) (l : Int) : (sub ws l).length ≤ m := by
  have key : ∀ i, (ws.getD i []).length ≤ m := fun i => by
    rw [List.getD_eq_getElem?_getD]
    cases e : ws[i]? with
    | none => simp
    | some w => exact h w (List.mem_of_getElem? e)
  unfold FG.sub
  split
  · exact key _
  · rw [FG.und_length]; exact key _
theorem slidw_len (n : Nat) (e o : Int) : ∀ w ∈ slidw n e o, w.length ≤ 2 := fun w m => by
  unfold FG.slidw FG.setw at m
  rcases List.mem_or_eq_of_mem_set m with m | rfl
  · obtain ⟨k, _, rfl⟩ := List.mem_map.mp m
    simp
  · split <;> simp [FG.und]
/-- what a slide's answer tells -/
theorem slideS_some {s s' : Sl} {i : Nat} {b : Bool} (h : slideS s i b = some s') : ∃ e o, At s.p i b e o ∧ o ≠ -e ∧ (∀ w ∈ s.ws, (low (flat (FG.subw e o) w)).length ≤ 400) ∧ (low (flat (sub s.bs) [-o, e])).length ≤ 400 ∧ s' = ⟨slideA b e o s.p, s.ws.map fun w => low (flat (FG.subw e o) w), setw s.bs e (low (flat (sub s.bs) [-o, e]))⟩ := by
  unfold FG.slideS at h
  split at h
  · rename_i e o he ho
    split at h
    · cases h
    · rename_i hne
      split at h
      · rename_i hok
        cases h
        rw [Bool.and_eq_true, decide_eq_true_eq] at hok
        refine ⟨e, o, ⟨(List.getElem?_eq_some_iff.mp he).1, he, ho⟩, hne, fun w m => ?_, hok.2, rfl⟩
        exact of_decide_eq_true (List.all_eq_true.mp hok.1 _ (List.mem_map.mpr ⟨w, m, rfl⟩))
      · cases h
  · cases h
theorem R_slide {C : Addr} {n : Nat} {R0 : List (List Int)} (hn : n ≤ 400) {s s' : Sl} {i : Nat} {b : Bool} (W : WF n R0 s) (h : slideS s i b = some s') : g_Sliding_slide C (objT C s) [.int (i : Nat), .bl b] = some (objT C s', .non) := by
  have hz := sizeLine_eq
  obtain ⟨e, o, hAt, hne, h1, h2, rfl⟩ := slideS_some h
  have hlen := W.pl.length
  obtain ⟨me, mo⟩ := (hAt.nbr W.pl).mem W.pl
  have eL := (W.pl.mem e).mp me
  have oL := (W.pl.mem o).mp mo
  have e0 : slotsM ["self", "place", "is_ahead", "end", "over", "some", "band", "word", "back"] (objT C s) [.int (i : Nat), .bl b] = [some ⟨.own, objT C s⟩, some ⟨.shr, .int (i : Nat)⟩, some ⟨.shr, .bl b⟩, none, none, none, none, none, none] := rfl
  unfold g_Sliding_slide runM b_Sliding_slide
  rw [e0]
  have hse := R_slid_ends (C := C) W.pl (by omega) hAt hne
  have q1 : sAsg (xCall (gArity 3 (g_slid_ends C)) (aCons (xFld C "plate" (xName 0)) (aCons (xName 1) (aCons (xName 2) aNil)))) (gT 3 (gsCons (gFld 0 C "plate") (gsCons (gN 3) (gsCons (gN 4) gsNil)))) [some ⟨.own, objT C s⟩, some ⟨.shr, .int (i : Nat)⟩, some ⟨.shr, .bl b⟩, none, none, none, none, none, none] none =
      some (.nx, [some ⟨.own, objT C { s with p := slideA b e o s.p }⟩, some ⟨.shr, .int (i : Nat)⟩, some ⟨.shr, .bl b⟩, some ⟨.shr, .int e⟩, some ⟨.shr, .int o⟩, none, none, none, none], none) := by
    simp [hse, gfp]
  rw [e_seq, q1, Option.bind_some]
  dsimp only
  have q2 := ones_lc (S := [some ⟨.own, objT C { s with p := slideA b e o s.p }⟩, some ⟨.shr, .int (i : Nat)⟩, some ⟨.shr, .bl b⟩, some ⟨.shr, .int e⟩, some ⟨.shr, .int o⟩, none, none, none, none]) (a := aCons (xCall gLen (aCons (xFld C "words" (xName 0)) aNil)) aNil) (v := 6) (n := n) (e := none) (k := .shr) (j := (s.ws.length : Int)) (i := 0) (by simp) (by rw [W.lw]) (by omega) (by simp) (by omega)
  rw [e_seq, e_set, q2, Option.bind_some, keep_own_rL, Option.bind_some, Option.bind_some]
  dsimp only [List.set_cons_succ, List.set_cons_zero]
  have q3 : sAsg (xCall (gArity 2 (g_end_word C)) (aCons (xName 3) (aCons (xName 4) aNil))) (gIxL 5 (xBin DL.gSub (xCall gAbs (aCons (xName 3) aNil)) (xC (.int 1)))) [some ⟨.own, objT C { s with p := slideA b e o s.p }⟩, some ⟨.shr, .int (i : Nat)⟩, some ⟨.shr, .bl b⟩, some ⟨.shr, .int e⟩, some ⟨.shr, .int o⟩, some ⟨.own, rL (ones n)⟩, none, none, none] none =
      some (.nx, [some ⟨.own, objT C { s with p := slideA b e o s.p }⟩, some ⟨.shr, .int (i : Nat)⟩, some ⟨.shr, .bl b⟩, some ⟨.shr, .int e⟩, some ⟨.shr, .int o⟩, some ⟨.own, rL (slidw n e o)⟩, none, none, none], none) := by
    have hi := e_gIxL_w (i := 5) (fi := xBin DL.gSub (xCall gAbs (aCons (xName 3) aNil)) (xC (.int 1))) (S := [some ⟨.own, objT C { s with p := slideA b e o s.p }⟩, some ⟨.shr, .int (i : Nat)⟩, some ⟨.shr, .bl b⟩, some ⟨.shr, .int e⟩, some ⟨.shr, .int o⟩, some ⟨.own, rL (ones n)⟩, none, none, none]) (e := none) (k := .shr) (x := (if e < 0 then -e else e) - 1) (j := e.natAbs - 1) (ws := ones n) (w := if e > 0 then [o, e] else [-e, -o]) (kc := .shr) (by simp) (abs_idx eL.1) (by rw [FG.ones_length]; omega) rfl
    have hw : (ones n).set (e.natAbs - 1) (if e > 0 then [o, e] else [-e, -o]) = slidw n e o := by
      unfold FG.slidw FG.setw
      rfl
    rw [hw] at hi
    rw [e_asg]
    simp only [e_call, e_acons, e_anil, e_name, List.getElem?_cons_succ, List.getElem?_cons_zero, nk_int, Option.bind_some, ts_cons, ts_nil, ar2, R_end_word, kOf_wT, hi, List.set_cons_succ, List.set_cons_zero]
  rw [e_seq, q3, Option.bind_some]
  dsimp only
  have q4 : xLc (iSeqO (xFld C "words" (xName 0))) (gN 7) bYes (xCall (gArity 2 (g_letters_put C)) (aCons (xName 5) (aCons (xName 7) aNil))) [7] [some ⟨.own, objT C { s with p := slideA b e o s.p }⟩, some ⟨.shr, .int (i : Nat)⟩, some ⟨.shr, .bl b⟩, some ⟨.shr, .int e⟩, some ⟨.shr, .int o⟩, some ⟨.own, rL (slidw n e o)⟩, none, none, none] none = some (⟨.own, rL (s.ws.map fun w => low (flat (FG.subw e o) w))⟩, none) := by
    refine lc_w (E := wT) (Sx := fun w => [some ⟨.own, objT C { s with p := slideA b e o s.p }⟩, some ⟨.shr, .int (i : Nat)⟩, some ⟨.shr, .bl b⟩, some ⟨.shr, .int e⟩, some ⟨.shr, .int o⟩, some ⟨.own, rL (slidw n e o)⟩, none, some ⟨.shr, wT w⟩, none]) (by simp) (fun w _ => by simp) (fun w m => ?_) (by rw [W.lw]; omega)
    obtain ⟨Lw, _, wl⟩ := W.ws w m
    have eq := FG.hom_slidw (o := o) eL Lw
    have hput := R_letters_put (C := C) (row_rL (slidw n e o)) (w := w) (fun v mv => by have := slidw_len n e o v mv; omega) (by rw [FG.slidw_length]; exact Lw) (by have := flat_len (sub_len (slidw_len n e o)) w; omega) (by rw [eq]; exact h1 w m)
    rw [eq] at hput
    simp [hput]
  rw [e_seq, e_asg, q4, Option.bind_some, gfw]
  dsimp only [Option.bind_some]
  have q5 : sSet 8 (xCall (gArity 2 (g_letters_put C)) (aCons (xFld C "backs" (xName 0)) (aCons (xCall gTup (aCons (xUn gNeg (xName 4)) (aCons (xName 3) aNil))) aNil))) [some ⟨.own, objT C ⟨slideA b e o s.p, s.ws.map fun w => low (flat (FG.subw e o) w), s.bs⟩⟩, some ⟨.shr, .int (i : Nat)⟩, some ⟨.shr, .bl b⟩, some ⟨.shr, .int e⟩, some ⟨.shr, .int o⟩, some ⟨.own, rL (slidw n e o)⟩, none, none, none] none =
      some (.nx, [some ⟨.own, objT C ⟨slideA b e o s.p, s.ws.map fun w => low (flat (FG.subw e o) w), s.bs⟩⟩, some ⟨.shr, .int (i : Nat)⟩, some ⟨.shr, .bl b⟩, some ⟨.shr, .int e⟩, some ⟨.shr, .int o⟩, some ⟨.own, rL (slidw n e o)⟩, none, none, some ⟨.shr, wT (low (flat (sub s.bs) [-o, e]))⟩], none) := by
    have hput := R_letters_put (C := C) (row_rL s.bs) (w := [-o, e]) (fun v mv => by have := (W.bs v mv).2.2; omega) (by rw [W.lb]; intro x m; simp at m; omega) (by have := flat_len (sub_len fun v mv => (W.bs v mv).2.2) [-o, e]; simp at this; omega) h2
    have hput : g_letters_put C [rL s.bs, wT [-o, e]] = some (true, wT (low (flat (sub s.bs) [-o, e]))) := hput
    have ht : ∀ a b : Int, gTup [.int a, .int b] = some (true, wT [a, b]) := fun a b => tupN (us := [.int a, .int b]) rfl (by simp)
    simp [ht, hput]
  rw [e_seq, q5, Option.bind_some]
  dsimp only
  have hund : g_word_undone C [wT (low (flat (sub s.bs) [-o, e]))] = some (true, wT (und (low (flat (sub s.bs) [-o, e])))) := R_word_undone (by omega)
  have q6 : xIf (bVal (xBin gGt (xName 3) (xC (.int 0)))) (xName 8) (xCall (gArity 1 (g_word_undone C)) (aCons (xName 8) aNil)) [some ⟨.own, objT C ⟨slideA b e o s.p, s.ws.map fun w => low (flat (FG.subw e o) w), s.bs⟩⟩, some ⟨.shr, .int (i : Nat)⟩, some ⟨.shr, .bl b⟩, some ⟨.shr, .int e⟩, some ⟨.shr, .int o⟩, some ⟨.own, rL (slidw n e o)⟩, none, none, some ⟨.shr, wT (low (flat (sub s.bs) [-o, e]))⟩] none =
      some (⟨.shr, wT (if e > 0 then low (flat (sub s.bs) [-o, e]) else und (low (flat (sub s.bs) [-o, e])))⟩, none) := by
    by_cases he : 0 < e
    · simp [he]
    · simp [he, hund]
  have q7 := gixb (C := C) (s := ⟨slideA b e o s.p, s.ws.map fun w => low (flat (FG.subw e o) w), s.bs⟩) (r := [some ⟨.shr, .int (i : Nat)⟩, some ⟨.shr, .bl b⟩, some ⟨.shr, .int e⟩, some ⟨.shr, .int o⟩, some ⟨.own, rL (slidw n e o)⟩, none, none, some ⟨.shr, wT (low (flat (sub s.bs) [-o, e]))⟩]) (e := none) (k := .shr) (kc := .shr) (x := (if e < 0 then -e else e) - 1) (j := e.natAbs - 1) (w := if e > 0 then low (flat (sub s.bs) [-o, e]) else und (low (flat (sub s.bs) [-o, e]))) (fi := xBin DL.gSub (xCall gAbs (aCons (xName 3) aNil)) (xC (.int 1))) (by simp) (abs_idx eL.1) (by show e.natAbs - 1 < s.bs.length; rw [W.lb]; omega)
  rw [e_asg, q6, Option.bind_some, q7]
  rfl
end DL

set_option Elab.async false
set_option linter.all false
set_option maxRecDepth 100000
set_option maxHeartbeats 2000000
namespace DL
open PySem PySem.Spec PyProof.Rows L2
open FG (sub hom Lets flat low und ring rots rmin core Plate Good slideA slideL slideB Nbr nxt slidw ones setw Sl slideS WF gatherS linkIn linkOut linkedS fourS backS turnS handleS linkRun pairRun runS)

theorem R_init {C : Addr} {n : Nat} {p : List Int} (hp : Plate n p) (hn : n ≤ 1000) : g_Sliding___init__ C (.obj C [] []) [wT p] = some (objT C ⟨p, ones n, ones n⟩, .non) := by
  have hz := sizeLine_eq
  have hlen := hp.length
  have e0 : slotsM ["self", "plate", "band"] (.obj C [] []) [wT p] = [some ⟨.own, .obj C [] []⟩, some ⟨.shr, wT p⟩, none] := rfl
  unfold g_Sliding___init__ runM b_Sliding___init__
  rw [e0]
  have h1 : sAsg (xName 1) (gFld 0 C "plate") [some ⟨.own, .obj C [] []⟩, some ⟨.shr, wT p⟩, none] none = some (.nx, [some ⟨.own, .obj C ["plate"] [wT p]⟩, some ⟨.shr, wT p⟩, none], none) := by
    rw [e_asg]
    have : xName 1 [some ⟨.own, .obj C [] []⟩, some ⟨.shr, wT p⟩, none] none = some (⟨.shr, wT p⟩, none) := by simp
    rw [this, Option.bind_some]
    show ((if C = C ∧ okItem ⟨.shr, wT p⟩ = true ∧ ([] : List Str).length < 1000 then some _ else none).bind _) = _
    rw [if_pos ⟨rfl, ok_wT _ _, by decide⟩]
    rfl
  rw [e_seq, h1, Option.bind_some]
  dsimp only
  have h2 := ones_lc (S := [some ⟨.own, .obj C ["plate"] [wT p]⟩, some ⟨.shr, wT p⟩, none]) (a := aCons (xBin gDiv (xCall gLen (aCons (xName 1) aNil)) (xC (.int 2))) aNil) (v := 2) (n := n) (e := none) (k := .shr) (j := (p.length : Int) / 2) (i := 0) (by simp [g_div]) (half_len hp) (by omega) (by simp) (by omega)
  have h3 : gFld 0 C "words" ⟨.own, rL (ones n)⟩ [some ⟨.own, .obj C ["plate"] [wT p]⟩, some ⟨.shr, wT p⟩, none] none = some ([some ⟨.own, .obj C ["plate", "words"] [wT p, rL (ones n)]⟩, some ⟨.shr, wT p⟩, none], none) := by
    show (if C = C ∧ okItem ⟨.own, rL (ones n)⟩ = true ∧ (["plate"] : List Str).length < 1000 then some (([some (Cell.mk .own (T.obj C (putN "words" ["plate"]) (putT "words" (rL (ones n)) ["plate"] [wT p]))), some (Cell.mk .shr (wT p)), none] : Slots), (none : Option Src)) else none) = _
    rw [if_pos ⟨rfl, ok_own _, by decide⟩]
    have a1 : putN "words" ["plate"] = (["plate", "words"] : List Str) := by rw [putN, if_neg (by decide)]; rfl
    have a2 : putT "words" (rL (ones n)) ["plate"] [wT p] = [wT p, rL (ones n)] := by rw [putT, if_neg (by decide)]; rfl
    rw [a1, a2]
  rw [e_seq, e_asg, h2, Option.bind_some, h3]
  dsimp only [Option.bind_some]
  have h4 : xFld C "words" (xName 0) [some ⟨.own, .obj C ["plate", "words"] [wT p, rL (ones n)]⟩, some ⟨.shr, wT p⟩, none] none = some (⟨.vw, rL (ones n)⟩, none) := by
    unfold xFld
    simp only [e_name, List.getElem?_cons_zero, nk_obj, Option.bind_eq_bind, Option.bind_some]
    rw [if_pos trivial]
    have : fldT ["plate", "words"] [wT p, rL (ones n)] "words" = some (rL (ones n)) := by rw [fldT, if_neg (by decide), fldT, if_pos rfl]
    rw [this]
    rfl
  have h5 : gFld 0 C "backs" ⟨.own, rL (ones n)⟩ [some ⟨.own, .obj C ["plate", "words"] [wT p, rL (ones n)]⟩, some ⟨.shr, wT p⟩, none] none = some ([some ⟨.own, objT C ⟨p, ones n, ones n⟩⟩, some ⟨.shr, wT p⟩, none], none) := by
    show (if C = C ∧ okItem ⟨.own, rL (ones n)⟩ = true ∧ (["plate", "words"] : List Str).length < 1000 then some (([some (Cell.mk .own (T.obj C (putN "backs" ["plate", "words"]) (putT "backs" (rL (ones n)) ["plate", "words"] [wT p, rL (ones n)]))), some (Cell.mk .shr (wT p)), none] : Slots), (none : Option Src)) else none) = _
    rw [if_pos ⟨rfl, ok_own _, by decide⟩]
    have a1 : putN "backs" ["plate", "words"] = flds := by rw [putN, if_neg (by decide), putN, if_neg (by decide)]; rfl
    have a2 : putT "backs" (rL (ones n)) ["plate", "words"] [wT p, rL (ones n)] = [wT p, rL (ones n), rL (ones n)] := by rw [putT, if_neg (by decide), putT, if_neg (by decide)]; rfl
    rw [a1, a2]
    rfl
  have h6 : xCall gList (aCons (xFld C "words" (xName 0)) aNil) [some ⟨.own, .obj C ["plate", "words"] [wT p, rL (ones n)]⟩, some ⟨.shr, wT p⟩, none] none = some (⟨.own, rL (ones n)⟩, none) := by
    rw [e_call, e_acons, h4]
    simp
  rw [e_asg, h6, Option.bind_some, h5]
  rfl
section
variable {C : Addr} {s s' : Sl} {r : Slots} {e : Option Src}
theorem e_mm {x : Str} {m : Nat} {g : GO} {fa : Ax} {cs : List Cell} (hx : noF x flds = true) (ha : fa (some ⟨.own, objT C s⟩ :: r) e = some (cs, e)) (hf : (ts cs).all T.flat = true) (hl : (ts cs).length = m) (hg : g (objT C s) (ts cs) = some (objT C s', .non)) :
    sMm 0 C x m g fa (some ⟨.own, objT C s⟩ :: r) e = some (.nx, some ⟨.own, objT C s'⟩ :: r, e) := by
  unfold sMm
  rw [ha]
  simp only [Option.bind_eq_bind, Option.bind_some, List.getElem?_cons_zero]
  unfold objT at hg ⊢
  dsimp only
  rw [if_pos ⟨rfl, hx, hf, hl⟩, hg, Option.bind_some]
  dsimp only
  rw [if_pos (show T.non.flat = true from rfl)]
  rfl
theorem e_pmV {k : Kd} {x : Str} {m : Nat} {g : GN} {fo : Ex} {fa : Ax} {S : Slots} {cs : List Cell} {b : Bool} {t : T} (hx : noF x flds = true) (ho : fo S e = some (⟨k, objT C s⟩, e)) (ha : fa S e = some (cs, e)) (hl : (ts cs).length + 1 = m) (hg : g (objT C s :: ts cs) = some (b, t)) (hf : t.flat = true) :
    xPm C x m g fo fa S e = some (⟨.shr, t⟩, e) := by
  unfold xPm
  rw [ho]
  simp only [Option.bind_some]
  unfold objT at hg ⊢
  dsimp only
  rw [if_pos ⟨rfl, hx⟩, ha, Option.bind_some]
  dsimp only
  rw [if_pos hl, hg, Option.map_some]
  dsimp only
  rw [kOf_flat hf]
end
theorem mem_of_next {p : List Int} {a y : Int} (h : p[p.idxOf a + 1]? = some y) : a ∈ p := by
  have := (List.getElem?_eq_some_iff.mp h).1
  exact List.idxOf_lt_length_iff.mp (by omega)
section
variable {C : Addr} {n : Nat} {R0 : List (List Int)} (hR0 : ∀ r ∈ R0, Lets n r) (hn : n ≤ 400)
include hR0 hn
theorem gather_loop {a z : Int} : ∀ (k m : Nat) {s s' : Sl}, k ≤ m → WF n R0 s → gatherS a z k s = some s' → whileN (bVal (xBin (gEqX true) (xBin gSubX (xFld C "plate" (xName 0)) (xBin gAdd (xBm gIdx (xFld C "plate" (xName 0)) (aCons (xName 1) aNil)) (xC (.int 1)))) (xName 2))) (sMm 0 C "slide" 2 (g_Sliding_slide C) (aCons (xBin gAdd (xBm gIdx (xFld C "plate" (xName 0)) (aCons (xName 1) aNil)) (xC (.int 1))) (aCons (xC (.bl false)) aNil))) m [some ⟨.own, objT C s⟩, some ⟨.shr, .int a⟩, some ⟨.shr, .int z⟩] none =
    some (.nx, [some ⟨.own, objT C s'⟩, some ⟨.shr, .int a⟩, some ⟨.shr, .int z⟩], none)
  | 0, _, _, _, _, _, e => by cases e
  | k + 1, m, s, s', hm, W, e => by
    obtain ⟨m, rfl⟩ : ∃ m', m = m' + 1 := ⟨m - 1, by omega⟩
    unfold FG.gatherS at e
    split at e
    · cases e
    · rename_i y hy
      have ma := mem_of_next hy
      have hat : atI s.p ((s.p.idxOf a : Int) + 1) = some y := atI_nat (j := s.p.idxOf a + 1) hy
      rw [whileN_succ]
      have hc : bVal (xBin (gEqX true) (xBin gSubX (xFld C "plate" (xName 0)) (xBin gAdd (xBm gIdx (xFld C "plate" (xName 0)) (aCons (xName 1) aNil)) (xC (.int 1)))) (xName 2)) [some ⟨.own, objT C s⟩, some ⟨.shr, .int a⟩, some ⟨.shr, .int z⟩] none = some (!decide (y = z), none) := by simp [ma, hat]
      rw [hc, Option.bind_some]
      split at e
      · rename_i hyz
        cases e
        rw [if_neg (by simp [hyz])]
      · rename_i hyz
        obtain ⟨t, e1, e2⟩ := Option.bind_eq_some_iff.mp e
        rw [if_pos (by simp [hyz])]
        have hs := R_slide (C := C) hn W e1
        have hb := e_mm (C := C) (s := s) (s' := t) (r := [some ⟨.shr, .int a⟩, some ⟨.shr, .int z⟩]) (e := none) (x := "slide") (m := 2) (g := g_Sliding_slide C) (fa := aCons (xBin gAdd (xBm gIdx (xFld C "plate" (xName 0)) (aCons (xName 1) aNil)) (xC (.int 1))) (aCons (xC (.bl false)) aNil)) (cs := [⟨.shr, .int (s.p.idxOf a + 1 : Nat)⟩, ⟨.shr, .bl false⟩]) (by decide) (by simp [ma]) rfl rfl hs
        rw [hb, Option.bind_some]
        exact gather_loop k m (by omega) (FG.wf_slide hR0 _ _ _ _ W e1) e2
theorem R_gathered {a z : Int} {k : Nat} (hk : k ≤ 1000) {s s' : Sl} (W : WF n R0 s) (e : gatherS a z k s = some s') : g_Sliding_gathered C (objT C s) [.int a, .int z] = some (objT C s', .non) := by
  have e0 : slotsM ["self", "start", "end"] (objT C s) [.int a, .int z] = [some ⟨.own, objT C s⟩, some ⟨.shr, .int a⟩, some ⟨.shr, .int z⟩] := rfl
  unfold g_Sliding_gathered runM b_Sliding_gathered
  rw [e0, e_while, gather_loop hR0 hn k 1000 hk W e]
  rfl
end
/-! ### what is linked -/
def resT : Option (Int × Int) → T
  | none => .non
  | some z => wT [z.1, z.2]
theorem resT_flat (f : Option (Int × Int)) : (resT f).flat = true := by cases f <;> rfl
def lkB : Sx := sIf (bVal (xBin gGt (xBm gIdx (xName 2) (aCons (xUn gNeg (xBin gSubX (xName 2) (xName 6))) aNil)) (xName 5))) (sRet (xCall gTup (aCons (xName 4) (aCons (xBin gSubX (xName 2) (xName 6)) aNil)))) sNx
theorem tup2 (a b : Int) : gTup [.int a, .int b] = some (true, wT [a, b]) := tupN (us := [.int a, .int b]) rfl (by simp)
theorem lkIn {r : List Int} {one : Int} {late : Nat} {x0 x1 x3 : Option Cell} : ∀ (js : List Nat) (c6 : Option Cell) {f : Option (Int × Int)}, linkIn r one late js = some f →
    ∃ y6, forL (gN 6) lkB (js.map fun (j : Nat) => T.int j) [x0, x1, some ⟨.shr, wT r⟩, x3, some ⟨.shr, .int one⟩, some ⟨.shr, .int late⟩, c6] none = some (match f with | none => .nx | some z => .ret ⟨.shr, wT [z.1, z.2]⟩, [x0, x1, some ⟨.shr, wT r⟩, x3, some ⟨.shr, .int one⟩, some ⟨.shr, .int late⟩, y6], none)
  | [], c6, f, e => by
    unfold FG.linkIn at e
    cases e
    exact ⟨c6, rfl⟩
  | j :: js, c6, f, e => by
    unfold FG.linkIn at e
    split at e
    · cases e
    · rename_i y hy
      split at e
      · rename_i hm
        have hat : atI r (j : Int) = some y := atI_nat hy
        rw [List.map_cons, forL_cons]
        simp only [nk_int, e_gN, keep_shr, Option.bind_some, List.set_cons_succ, List.set_cons_zero]
        have hc : bVal (xBin gGt (xBm gIdx (xName 2) (aCons (xUn gNeg (xBin gSubX (xName 2) (xName 6))) aNil)) (xName 5)) [x0, x1, some ⟨.shr, wT r⟩, x3, some ⟨.shr, .int one⟩, some ⟨.shr, .int late⟩, some ⟨.shr, .int j⟩] none = some (decide (late < r.idxOf (-y)), none) := by
          have : ((late : Int) < (r.idxOf (-y) : Int)) ↔ late < r.idxOf (-y) := by omega
          simp [hat, hm, this]
        split at e
        · rename_i hl
          cases e
          refine ⟨some ⟨.shr, .int j⟩, ?_⟩
          unfold lkB
          rw [e_if, hc, Option.bind_some, if_pos (by simp [hl])]
          simp [hat, tup2]
        · rename_i hl
          obtain ⟨y6, ih⟩ := lkIn (r := r) (one := one) (late := late) (x0 := x0) (x1 := x1) (x3 := x3) js (some ⟨.shr, .int j⟩) e
          refine ⟨y6, ?_⟩
          have hb : lkB [x0, x1, some ⟨.shr, wT r⟩, x3, some ⟨.shr, .int one⟩, some ⟨.shr, .int late⟩, some ⟨.shr, .int j⟩] none = some (.nx, [x0, x1, some ⟨.shr, wT r⟩, x3, some ⟨.shr, .int one⟩, some ⟨.shr, .int late⟩, some ⟨.shr, .int j⟩], none) := by
            unfold lkB
            rw [e_if, hc, Option.bind_some, if_neg (by simp [hl])]
            rfl
          rw [hb, Option.bind_some]
          exact ih
      · cases e
theorem rng_eq (lo m : Nat) : ((List.range m).map fun (q : Nat) => T.int ((lo : Int) + (q : Int))) = (List.range' lo m).map fun (j : Nat) => T.int j := by
  rw [List.range'_eq_map_range, List.map_map]
  refine List.map_congr_left fun q _ => ?_
  show T.int ((lo : Int) + (q : Int)) = T.int ((lo + q : Nat) : Int)
  congr 1
def lkO : Sx := sSeq (sSet 5 (xBm gIdx (xName 2) (aCons (xUn gNeg (xName 4)) aNil))) (sFor (iR2 (aCons (xBin gAdd (xName 3) (xC (.int 1))) (aCons (xName 5) aNil))) (gN 6) lkB)
theorem lkOut {r : List Int} (hr : r.length ≤ 900) {x0 x1 : Option Cell} : ∀ (zs : List (Int × Nat)) (c3 c4 c5 c6 : Option Cell) {f : Option (Int × Int)}, (∀ z ∈ zs, z.2 ≤ 900) → linkOut r zs = some f →
    ∃ y3 y4 y5 y6, forL (gT 2 (gsCons (gN 3) (gsCons (gN 4) gsNil))) lkO (zs.map fun z => T.tup [.int (z.2 : Nat), .int z.1]) [x0, x1, some ⟨.shr, wT r⟩, c3, c4, c5, c6] none = some (match f with | none => .nx | some z => .ret ⟨.shr, wT [z.1, z.2]⟩, [x0, x1, some ⟨.shr, wT r⟩, y3, y4, y5, y6], none)
  | [], c3, c4, c5, c6, f, _, e => by
    unfold FG.linkOut at e
    cases e
    exact ⟨c3, c4, c5, c6, rfl⟩
  | z :: zs, c3, c4, c5, c6, f, hz, e => by
    unfold FG.linkOut at e
    split at e
    · rename_i hm
      have hzz := hz z List.mem_cons_self
      have hix := List.idxOf_lt_length_of_mem hm
      rw [List.map_cons, forL_cons]
      have hg : gT 2 (gsCons (gN 3) (gsCons (gN 4) gsNil)) (nk .shr (T.tup [.int (z.2 : Nat), .int z.1])) [x0, x1, some ⟨.shr, wT r⟩, c3, c4, c5, c6] none = some ([x0, x1, some ⟨.shr, wT r⟩, some ⟨.shr, .int (z.2 : Nat)⟩, some ⟨.shr, .int z.1⟩, c5, c6], none) := by simp
      rw [hg, Option.bind_some]
      have hs : sSet 5 (xBm gIdx (xName 2) (aCons (xUn gNeg (xName 4)) aNil)) [x0, x1, some ⟨.shr, wT r⟩, some ⟨.shr, .int (z.2 : Nat)⟩, some ⟨.shr, .int z.1⟩, c5, c6] none = some (.nx, [x0, x1, some ⟨.shr, wT r⟩, some ⟨.shr, .int (z.2 : Nat)⟩, some ⟨.shr, .int z.1⟩, some ⟨.shr, .int (r.idxOf (-z.1) : Nat)⟩, c6], none) := by simp [hm]
      have hit := it_r2 (S := [x0, x1, some ⟨.shr, wT r⟩, some ⟨.shr, .int (z.2 : Nat)⟩, some ⟨.shr, .int z.1⟩, some ⟨.shr, .int (r.idxOf (-z.1) : Nat)⟩, c6]) (e := none) (a := aCons (xBin gAdd (xName 3) (xC (.int 1))) (aCons (xName 5) aNil)) (k := .shr) (k2 := .shr) (i := ((z.2 + 1 : Nat) : Int)) (j := (r.idxOf (-z.1) : Nat)) (by simp) (by omega) (by omega)
      have hcnt : (((r.idxOf (-z.1) : Nat) : Int) - ((z.2 + 1 : Nat) : Int)).toNat = r.idxOf (-z.1) - (z.2 + 1) := by omega
      rw [hcnt, rng_eq] at hit
      have hbody : lkO [x0, x1, some ⟨.shr, wT r⟩, some ⟨.shr, .int (z.2 : Nat)⟩, some ⟨.shr, .int z.1⟩, c5, c6] none = forL (gN 6) lkB ((List.range' (z.2 + 1) (r.idxOf (-z.1) - (z.2 + 1))).map fun (j : Nat) => T.int j) [x0, x1, some ⟨.shr, wT r⟩, some ⟨.shr, .int (z.2 : Nat)⟩, some ⟨.shr, .int z.1⟩, some ⟨.shr, .int (r.idxOf (-z.1) : Nat)⟩, c6] none := by
        unfold lkO
        rw [e_seq, hs, Option.bind_some]
        dsimp only
        rw [e_for, hit, Option.bind_some]
      rw [hbody]
      cases hl : linkIn r z.1 (r.idxOf (-z.1)) (List.range' (z.2 + 1) (r.idxOf (-z.1) - (z.2 + 1))) with
      | none => rw [hl] at e; cases e
      | some w =>
        rw [hl] at e
        obtain ⟨y6, hin⟩ := lkIn (x0 := x0) (x1 := x1) (x3 := some ⟨.shr, .int (z.2 : Nat)⟩) _ c6 hl
        rw [hin, Option.bind_some]
        cases w with
        | some w =>
          cases e
          exact ⟨_, _, _, _, rfl⟩
        | none =>
          obtain ⟨y3, y4, y5, z6, ih⟩ := lkOut hr (x0 := x0) (x1 := x1) zs (some ⟨.shr, .int (z.2 : Nat)⟩) (some ⟨.shr, .int z.1⟩) (some ⟨.shr, .int (r.idxOf (-z.1) : Nat)⟩) y6 (fun w m => hz w (List.mem_cons_of_mem _ m)) e
          exact ⟨y3, y4, y5, z6, ih⟩
    · cases e
theorem cut_from' (w : List Int) (k : Nat) : cutT w (some (k : Int)) none = w.drop k := by
  by_cases h : k ≤ w.length
  · exact cut_from w k h
  · unfold cutT
    rw [sIx_some_nat, HT.sIx_none, Nat.min_eq_right (by omega), List.drop_of_length_le (Nat.le_refl _), List.drop_of_length_le (by omega)]
    simp
theorem R_linked {C : Addr} {s : Sl} {done : Nat} {f : Option (Int × Int)} (hl : s.p.length ≤ 900) (e : linkedS s done = some f) : g_Sliding_linked C [objT C s, .int (done : Nat)] = some (true, resT f) := by
  have e0 : slots0 ["self", "done", "rest", "k", "one", "late", "j"] [objT C s, .int (done : Nat)] = [some ⟨.shr, objT C s⟩, some ⟨.shr, .int (done : Nat)⟩, none, none, none, none, none] := rfl
  have hrl : (s.p.drop done).length ≤ 900 := by rw [List.length_drop]; omega
  obtain ⟨y3, y4, y5, y6, h⟩ := lkOut (r := s.p.drop done) hrl (x0 := some ⟨.shr, objT C s⟩) (x1 := some ⟨.shr, .int (done : Nat)⟩) (s.p.drop done).zipIdx none none none none (fun z m => by
    have := (List.mem_zipIdx m).2.1
    omega) e
  unfold g_Sliding_linked runN b_Sliding_linked
  rw [e0]
  have h1 : sSet 2 (xSl gSl (xFld C "plate" (xName 0)) (oSome (xName 1)) oNone) [some ⟨.shr, objT C s⟩, some ⟨.shr, .int (done : Nat)⟩, none, none, none, none, none] none = some (.nx, [some ⟨.shr, objT C s⟩, some ⟨.shr, .int (done : Nat)⟩, some ⟨.shr, wT (s.p.drop done)⟩, none, none, none, none], none) := by simp [cut_from']
  rw [e_seq, h1, Option.bind_some]
  dsimp only
  have hit := it_en (S := [some ⟨.shr, objT C s⟩, some ⟨.shr, .int (done : Nat)⟩, some ⟨.shr, wT (s.p.drop done)⟩, none, none, none, none]) (e := none) (i := 2) (w := s.p.drop done) (k := .shr) (by simp)
  rw [e_seq, e_for, hit, Option.bind_some]
  dsimp only
  show endN ((forL (gT 2 (gsCons (gN 3) (gsCons (gN 4) gsNil))) lkO _ _ _).bind _) = _
  rw [h, Option.bind_some]
  cases f with
  | none => simp [endN, resT]
  | some z => simp [endN, resT]
end DL

set_option Elab.async false
set_option linter.all false
set_option maxRecDepth 100000
set_option maxHeartbeats 2000000
namespace DL
open PySem PySem.Spec PyProof.Rows L2
open FG (sub hom Lets flat low und ring rots rmin core Plate Good slideA slideL slideB Nbr nxt slidw ones setw Sl slideS WF gatherS linkIn linkOut linkedS fourS backS turnS handleS linkRun pairRun runS)

theorem cut_to' (w : List Int) (k : Nat) : cutT w none (some (k : Int)) = w.take k := by
  by_cases h : k ≤ w.length
  · exact cut_to w k h
  · unfold cutT
    rw [sIx_some_nat, HT.sIx_none, Nat.min_eq_right (by omega), List.take_of_length_le (by omega : w.length ≤ k)]
    simp
section
variable {C : Addr} {n : Nat} {R0 : List (List Int)} (hR0 : ∀ r ∈ R0, Lets n r) (hn : n ≤ 400)
include hR0 hn
def fourB (C : Addr) : Sx := sMm 0 C "slide" 2 (g_Sliding_slide C) (aCons (xBm gIdx (xFld C "plate" (xName 0)) (aCons (xName 5) aNil)) (aCons (xC (.bl true)) aNil))
theorem four_loop {x : Int} {x1 x2 x3 x4 : Option Cell} : ∀ (k : Nat) (qs : List Nat) (c6 : Option Cell) {s s' : Sl}, qs.length = k → WF n R0 s → fourS x k s = some s' →
    ∃ y6, forL (gN 6) (fourB C) (qs.map fun (q : Nat) => T.int (0 + (q : Int))) [some ⟨.own, objT C s⟩, x1, x2, x3, x4, some ⟨.shr, .int x⟩, c6] none = some (.nx, [some ⟨.own, objT C s'⟩, x1, x2, x3, x4, some ⟨.shr, .int x⟩, y6], none)
  | 0, qs, c6, s, s', hq, W, e => by
    cases e
    have : qs = [] := List.eq_nil_of_length_eq_zero hq
    subst this
    exact ⟨c6, rfl⟩
  | k + 1, [], c6, s, s', hq, W, e => by simp at hq
  | k + 1, q :: qs, c6, s, s', hq, W, e => by
    unfold FG.fourS at e
    split at e
    · rename_i hm
      obtain ⟨t, e1, e2⟩ := Option.bind_eq_some_iff.mp e
      obtain ⟨y6, ih⟩ := four_loop (x1 := x1) (x2 := x2) (x3 := x3) (x4 := x4) k qs (some ⟨.shr, .int q⟩) (by simpa using hq) (FG.wf_slide hR0 _ _ _ _ W e1) e2
      refine ⟨y6, ?_⟩
      rw [List.map_cons, forL_cons]
      have h0 : (0 : Int) + (q : Int) = q := by omega
      simp only [nk_int, e_gN, keep_shr, Option.bind_some, List.set_cons_succ, List.set_cons_zero, h0]
      have hs := R_slide (C := C) hn W e1
      have hb := e_mm (C := C) (s := s) (s' := t) (r := [x1, x2, x3, x4, some ⟨.shr, .int x⟩, some ⟨.shr, .int q⟩]) (e := none) (x := "slide") (m := 2) (g := g_Sliding_slide C) (fa := aCons (xBm gIdx (xFld C "plate" (xName 0)) (aCons (xName 5) aNil)) (aCons (xC (.bl true)) aNil)) (cs := [⟨.shr, .int (s.p.idxOf x : Nat)⟩, ⟨.shr, .bl true⟩]) (by decide) (by simp [hm]) rfl rfl hs
      have hb : fourB C [some ⟨.own, objT C s⟩, x1, x2, x3, x4, some ⟨.shr, .int x⟩, some ⟨.shr, .int q⟩] none = _ := hb
      rw [hb, Option.bind_some]
      exact ih
    · cases e
def backC (C : Addr) : Bx := bVal (xBin gGt (xBm gIdx (xFld C "plate" (xName 0)) (aCons (xName 1) aNil)) (xName 3))
def backB (C : Addr) : Sx := sSeq (sSet 5 (xBin gSubX (xFld C "plate" (xName 0)) (xBin DL.gSub (xBm gIdx (xFld C "plate" (xName 0)) (aCons (xName 1) aNil)) (xC (.int 1))))) (sFor (iR1 (aCons (xC (.int 4)) aNil)) (gN 6) (fourB C))
theorem back_loop {a : Int} {done : Nat} {x2 x4 : Option Cell} : ∀ (k m : Nat) (c5 c6 : Option Cell) {s s' : Sl}, k ≤ m → WF n R0 s → backS a done k s = some s' →
    ∃ y5 y6, whileN (backC C) (backB C) m [some ⟨.own, objT C s⟩, some ⟨.shr, .int a⟩, x2, some ⟨.shr, .int done⟩, x4, c5, c6] none = some (.nx, [some ⟨.own, objT C s'⟩, some ⟨.shr, .int a⟩, x2, some ⟨.shr, .int done⟩, x4, y5, y6], none)
  | 0, _, _, _, _, _, _, _, e => by cases e
  | k + 1, m, c5, c6, s, s', hm, W, e => by
    obtain ⟨m, rfl⟩ : ∃ m', m = m' + 1 := ⟨m - 1, by omega⟩
    unfold FG.backS at e
    split at e
    · rename_i ma
      rw [whileN_succ]
      have hc : backC C [some ⟨.own, objT C s⟩, some ⟨.shr, .int a⟩, x2, some ⟨.shr, .int done⟩, x4, c5, c6] none = some (decide (done < s.p.idxOf a), none) := by
        have : ((done : Int) < (s.p.idxOf a : Int)) ↔ done < s.p.idxOf a := by omega
        simp [backC, ma, this]
      rw [hc, Option.bind_some]
      split at e
      · rename_i hd
        rw [if_pos (by simp [hd])]
        split at e
        · cases e
        · rename_i x hx
          obtain ⟨t, e1, e2⟩ := Option.bind_eq_some_iff.mp e
          have hat : atI s.p ((s.p.idxOf a : Int) - 1) = some x := by
            have : (s.p.idxOf a : Int) - 1 = ((s.p.idxOf a - 1 : Nat) : Int) := by omega
            rw [this]
            exact atI_nat hx
          have hset : sSet 5 (xBin gSubX (xFld C "plate" (xName 0)) (xBin DL.gSub (xBm gIdx (xFld C "plate" (xName 0)) (aCons (xName 1) aNil)) (xC (.int 1)))) [some ⟨.own, objT C s⟩, some ⟨.shr, .int a⟩, x2, some ⟨.shr, .int done⟩, x4, c5, c6] none = some (.nx, [some ⟨.own, objT C s⟩, some ⟨.shr, .int a⟩, x2, some ⟨.shr, .int done⟩, x4, some ⟨.shr, .int x⟩, c6], none) := by simp [ma, hat]
          obtain ⟨y6, hf⟩ := four_loop (C := C) hR0 hn (x := x) (x1 := some ⟨.shr, .int a⟩) (x2 := x2) (x3 := some ⟨.shr, .int done⟩) (x4 := x4) 4 (List.range 4) c6 (by simp) W e1
          have hit := it_r1 (S := [some ⟨.own, objT C s⟩, some ⟨.shr, .int a⟩, x2, some ⟨.shr, .int done⟩, x4, some ⟨.shr, .int x⟩, c6]) (e := none) (a := aCons (xC (.int 4)) aNil) (k := .shr) (n := 4) (j := 4) (by simp) rfl (by omega)
          obtain ⟨z5, z6, ih⟩ := back_loop (x2 := x2) (x4 := x4) k m (some ⟨.shr, .int x⟩) y6 (by omega) (FG.four_pres (fun s i b s' W e => FG.wf_slide hR0 s i b s' W e) 4 W e1) e2
          refine ⟨z5, z6, ?_⟩
          have hb : backB C [some ⟨.own, objT C s⟩, some ⟨.shr, .int a⟩, x2, some ⟨.shr, .int done⟩, x4, c5, c6] none = some (.nx, [some ⟨.own, objT C t⟩, some ⟨.shr, .int a⟩, x2, some ⟨.shr, .int done⟩, x4, some ⟨.shr, .int x⟩, y6], none) := by
            unfold backB
            rw [e_seq, hset, Option.bind_some]
            dsimp only
            rw [e_for, hit, Option.bind_some]
            exact hf
          rw [hb, Option.bind_some]
          exact ih
      · rename_i hd
        cases e
        rw [if_neg (by simp [hd])]
        exact ⟨c5, c6, rfl⟩
    · cases e
theorem R_handle {a z : Int} {done : Nat} {F : Nat} (hF : F ≤ 1000) {s s' : Sl} (W : WF n R0 s) (e : handleS F a z done s = some s') : g_Sliding_handle C (objT C s) [.int a, .int z, .int (done : Nat)] = some (objT C s', .non) := by
  have ws := FG.wf_slide hR0
  unfold FG.handleS at e
  obtain ⟨s1, e1, e⟩ := Option.bind_eq_some_iff.mp e
  obtain ⟨s2, e2, e⟩ := Option.bind_eq_some_iff.mp e
  obtain ⟨s3, e3, e⟩ := Option.bind_eq_some_iff.mp e
  have W1 := FG.gather_pres ws F W e1
  have W2 := FG.gather_pres ws F W1 e2
  have W3 := FG.gather_pres ws F W2 e3
  split at e
  · rename_i ma
    have e0 : slotsM ["self", "one", "other", "done", "at", "end", "lap"] (objT C s) [.int a, .int z, .int (done : Nat)] = [some ⟨.own, objT C s⟩, some ⟨.shr, .int a⟩, some ⟨.shr, .int z⟩, some ⟨.shr, .int (done : Nat)⟩, none, none, none] := rfl
    unfold g_Sliding_handle runM b_Sliding_handle
    rw [e0]
    have m1 := e_mm (C := C) (s := s) (s' := s1) (r := [some ⟨.shr, .int a⟩, some ⟨.shr, .int z⟩, some ⟨.shr, .int (done : Nat)⟩, none, none, none]) (e := none) (x := "gathered") (m := 2) (g := g_Sliding_gathered C) (fa := aCons (xName 1) (aCons (xName 2) aNil)) (cs := [⟨.shr, .int a⟩, ⟨.shr, .int z⟩]) (by decide) (by simp) rfl rfl (R_gathered hR0 hn hF W e1)
    have m2 := e_mm (C := C) (s := s1) (s' := s2) (r := [some ⟨.shr, .int a⟩, some ⟨.shr, .int z⟩, some ⟨.shr, .int (done : Nat)⟩, none, none, none]) (e := none) (x := "gathered") (m := 2) (g := g_Sliding_gathered C) (fa := aCons (xName 2) (aCons (xUn gNeg (xName 1)) aNil)) (cs := [⟨.shr, .int z⟩, ⟨.shr, .int (-a)⟩]) (by decide) (by simp) rfl rfl (R_gathered hR0 hn hF W1 e2)
    have m3 := e_mm (C := C) (s := s2) (s' := s3) (r := [some ⟨.shr, .int a⟩, some ⟨.shr, .int z⟩, some ⟨.shr, .int (done : Nat)⟩, none, none, none]) (e := none) (x := "gathered") (m := 2) (g := g_Sliding_gathered C) (fa := aCons (xUn gNeg (xName 1)) (aCons (xUn gNeg (xName 2)) aNil)) (cs := [⟨.shr, .int (-a)⟩, ⟨.shr, .int (-z)⟩]) (by decide) (by simp) rfl rfl (R_gathered hR0 hn hF W2 e3)
    rw [e_seq, m1, Option.bind_some]
    dsimp only
    rw [e_seq, m2, Option.bind_some]
    dsimp only
    rw [e_seq, m3, Option.bind_some]
    dsimp only
    -- the turning
    have ht : ∃ y4, sIf (bVal (xBin (gEqX false) (xName 3) (xC (.int 0)))) (sSeq (sSet 4 (xBm gIdx (xFld C "plate" (xName 0)) (aCons (xName 1) aNil))) (sAsg (xBin gAdd (xSl gSl (xFld C "plate" (xName 0)) (oSome (xName 4)) oNone) (xSl gSl (xFld C "plate" (xName 0)) oNone (oSome (xName 4)))) (gFld 0 C "plate"))) sNx [some ⟨.own, objT C s3⟩, some ⟨.shr, .int a⟩, some ⟨.shr, .int z⟩, some ⟨.shr, .int (done : Nat)⟩, none, none, none] none =
        some (.nx, [some ⟨.own, objT C (if done = 0 then turnS s3 a else s3)⟩, some ⟨.shr, .int a⟩, some ⟨.shr, .int z⟩, some ⟨.shr, .int (done : Nat)⟩, y4, none, none], none) := by
      by_cases hd : done = 0
      · refine ⟨some ⟨.shr, .int (s3.p.idxOf a : Nat)⟩, ?_⟩
        subst hd
        have hl := W3.pl.length
        have hadd : gAdd (wT (s3.p.drop (s3.p.idxOf a))) (wT (s3.p.take (s3.p.idxOf a))) = some (true, wT (s3.p.drop (s3.p.idxOf a) ++ s3.p.take (s3.p.idxOf a))) := g_add_wT (by rw [List.length_drop, List.length_take, sizeLine_eq]; omega)
        have hc : bVal (xBin (gEqX false) (xName 3) (xC (.int 0))) [some ⟨.own, objT C s3⟩, some ⟨.shr, .int a⟩, some ⟨.shr, .int z⟩, some ⟨.shr, .int ((0 : Nat) : Int)⟩, none, none, none] none = some (true, none) := by simp
        rw [e_if, hc, Option.bind_some, if_pos rfl, if_pos rfl]
        have h1 : sSet 4 (xBm gIdx (xFld C "plate" (xName 0)) (aCons (xName 1) aNil)) [some ⟨.own, objT C s3⟩, some ⟨.shr, .int a⟩, some ⟨.shr, .int z⟩, some ⟨.shr, .int ((0 : Nat) : Int)⟩, none, none, none] none = some (.nx, [some ⟨.own, objT C s3⟩, some ⟨.shr, .int a⟩, some ⟨.shr, .int z⟩, some ⟨.shr, .int ((0 : Nat) : Int)⟩, some ⟨.shr, .int (s3.p.idxOf a : Nat)⟩, none, none], none) := by simp [ma]
        rw [e_seq, h1, Option.bind_some]
        dsimp only
        have h2 : xBin gAdd (xSl gSl (xFld C "plate" (xName 0)) (oSome (xName 4)) oNone) (xSl gSl (xFld C "plate" (xName 0)) oNone (oSome (xName 4))) [some ⟨.own, objT C s3⟩, some ⟨.shr, .int a⟩, some ⟨.shr, .int z⟩, some ⟨.shr, .int ((0 : Nat) : Int)⟩, some ⟨.shr, .int (s3.p.idxOf a : Nat)⟩, none, none] none = some (⟨.shr, wT (s3.p.drop (s3.p.idxOf a) ++ s3.p.take (s3.p.idxOf a))⟩, none) := by simp [cut_from', cut_to', hadd]
        rw [e_asg, h2, Option.bind_some, gfp]
        rfl
      · refine ⟨none, ?_⟩
        have hc : bVal (xBin (gEqX false) (xName 3) (xC (.int 0))) [some ⟨.own, objT C s3⟩, some ⟨.shr, .int a⟩, some ⟨.shr, .int z⟩, some ⟨.shr, .int (done : Nat)⟩, none, none, none] none = some (false, none) := by simp [hd]
        rw [e_if, hc, Option.bind_some, if_neg (by simp), if_neg hd]
        rfl
    obtain ⟨y4, ht⟩ := ht
    rw [e_seq, ht, Option.bind_some]
    dsimp only
    have W4 : WF n R0 (if done = 0 then turnS s3 a else s3) := by
      split
      · exact FG.wf_turn s3 a ma W3
      · exact W3
    have e' : backS a done F (if done = 0 then turnS s3 a else s3) = some s' := e
    obtain ⟨y5, y6, hb⟩ := back_loop (C := C) hR0 hn (a := a) (done := done) (x2 := some ⟨.shr, .int z⟩) (x4 := y4) F 1000 none none hF W4 e'
    rw [e_while]
    show endM (whileN (backC C) (backB C) 1000 _ none) = _
    rw [hb]
    rfl
  · cases e
def runB1 (C : Addr) : Sx := sSeq (sMm 0 C "handle" 3 (g_Sliding_handle C) (aCons (xBin gSubX (xName 2) (xC (.int 0))) (aCons (xBin gSubX (xName 2) (xC (.int 1))) (aCons (xName 1) aNil)))) (sSeq (sAug 1 (fun i j => i + j) (xC (.int 4))) (sSet 2 (xPm C "linked" 2 (g_Sliding_linked C) (xName 0) (aCons (xName 1) aNil))))
theorem e_aug {S : Slots} {e : Option Src} {i : Nat} {g : Int → Int → Int} {f : Ex} {k kd : Kd} {a b : Int} (hS : S[i]? = some (some ⟨k, .int a⟩)) (hf : f S e = some (⟨kd, .int b⟩, e)) : sAug i g f S e = some (.nx, S.set i (some ⟨.shr, .int (g a b)⟩), e) := by
  unfold sAug
  rw [hS]
  dsimp only
  rw [hf]
  rfl
theorem link_loop {F : Nat} (hF : F ≤ 1000) : ∀ (k m done : Nat) (f : Option (Int × Int)) {s : Sl} {z : Nat × Sl}, k ≤ m → WF n R0 s → linkRun F k done f s = some z →
    ∃ g, whileN (bVal (xBin (gIsN true) (xName 2) (xC .non))) (runB1 C) m [some ⟨.own, objT C s⟩, some ⟨.shr, .int (done : Nat)⟩, some ⟨.shr, resT f⟩] none = some (.nx, [some ⟨.own, objT C z.2⟩, some ⟨.shr, .int (z.1 : Nat)⟩, g], none)
  | 0, _, _, _, _, _, _, _, e => by cases e
  | k + 1, m, done, f, s, z, hm, W, e => by
    obtain ⟨m, rfl⟩ : ∃ m', m = m' + 1 := ⟨m - 1, by omega⟩
    rw [whileN_succ]
    cases f with
    | none =>
      unfold FG.linkRun at e
      cases e
      refine ⟨some ⟨.shr, .non⟩, ?_⟩
      have hc : bVal (xBin (gIsN true) (xName 2) (xC .non)) [some ⟨.own, objT C s⟩, some ⟨.shr, .int (done : Nat)⟩, some ⟨.shr, resT none⟩] none = some (false, none) := by
        have : gIsN true .non .non = some (true, .bl false) := rfl
        simp [resT, this]
      rw [hc, Option.bind_some, if_neg (by simp)]
      rfl
    | some w =>
      unfold FG.linkRun at e
      obtain ⟨s1, e1, e⟩ := Option.bind_eq_some_iff.mp e
      obtain ⟨f1, e2, e⟩ := Option.bind_eq_some_iff.mp e
      have W1 := FG.handle_pres (FG.wf_slide hR0) FG.wf_turn W e1
      have hl1 := W1.pl.length
      obtain ⟨g, ih⟩ := link_loop hF k m (done + 4) f1 (by omega) W1 e
      refine ⟨g, ?_⟩
      have hc : bVal (xBin (gIsN true) (xName 2) (xC .non)) [some ⟨.own, objT C s⟩, some ⟨.shr, .int (done : Nat)⟩, some ⟨.shr, resT (some w)⟩] none = some (true, none) := by
        have : gIsN true (wT [w.1, w.2]) .non = some (true, .bl true) := rfl
        simp [resT, this]
      have a0 : atI [w.1, w.2] 0 = some w.1 := atI_nat (j := 0) rfl
      have a1 : atI [w.1, w.2] 1 = some w.2 := atI_nat (j := 1) rfl
      have m1 := e_mm (C := C) (s := s) (s' := s1) (r := [some ⟨.shr, .int (done : Nat)⟩, some ⟨.shr, resT (some w)⟩]) (e := none) (x := "handle") (m := 3) (g := g_Sliding_handle C) (fa := aCons (xBin gSubX (xName 2) (xC (.int 0))) (aCons (xBin gSubX (xName 2) (xC (.int 1))) (aCons (xName 1) aNil))) (cs := [⟨.shr, .int w.1⟩, ⟨.shr, .int w.2⟩, ⟨.shr, .int (done : Nat)⟩]) (by decide) (by simp [resT, a0, a1]) rfl rfl (R_handle hR0 hn hF W e1)
      have cast : ((done + 4 : Nat) : Int) = (done : Int) + 4 := by omega
      have m2 : sAug 1 (fun i j => i + j) (xC (.int 4)) [some ⟨.own, objT C s1⟩, some ⟨.shr, .int (done : Nat)⟩, some ⟨.shr, resT (some w)⟩] none = some (.nx, [some ⟨.own, objT C s1⟩, some ⟨.shr, .int ((done + 4 : Nat) : Int)⟩, some ⟨.shr, resT (some w)⟩], none) := by
        rw [e_aug hR0 hn (k := .shr) (kd := .shr) (a := (done : Int)) (b := 4) rfl rfl, cast]
        rfl
      have m3 := e_pmV (C := C) (s := s1) (e := none) (k := .vw) (x := "linked") (m := 2) (g := g_Sliding_linked C) (fo := xName 0) (fa := aCons (xName 1) aNil) (S := [some ⟨.own, objT C s1⟩, some ⟨.shr, .int ((done + 4 : Nat) : Int)⟩, some ⟨.shr, resT (some w)⟩]) (cs := [⟨.shr, .int ((done + 4 : Nat) : Int)⟩]) (b := true) (t := resT f1) (by decide) (by simp) (by simp) rfl (R_linked (by omega) e2) (resT_flat f1)
      have hb : runB1 C [some ⟨.own, objT C s⟩, some ⟨.shr, .int (done : Nat)⟩, some ⟨.shr, resT (some w)⟩] none = some (.nx, [some ⟨.own, objT C s1⟩, some ⟨.shr, .int ((done + 4 : Nat) : Int)⟩, some ⟨.shr, resT f1⟩], none) := by
        unfold runB1
        rw [e_seq, m1, Option.bind_some]
        dsimp only
        rw [e_seq, m2, Option.bind_some]
        dsimp only
        rw [e_set, m3, Option.bind_some, keep_shr, Option.bind_some]
        rfl
      rw [hc, Option.bind_some, if_pos rfl, hb, Option.bind_some]
      exact ih
def runB2 (C : Addr) : Sx := sIf (bVal (xBin (gEqX false) (xBin gSubX (xFld C "plate" (xName 0)) (xBin gAdd (xName 1) (xC (.int 1)))) (xUn gNeg (xBin gSubX (xFld C "plate" (xName 0)) (xName 1))))) (sAug 1 (fun i j => i + j) (xC (.int 2))) (sMm 0 C "slide" 2 (g_Sliding_slide C) (aCons (xName 1) (aCons (xC (.bl true)) aNil)))
theorem pair_loop2 {x2 : Option Cell} : ∀ (k m done : Nat) {s s' : Sl}, k ≤ m → WF n R0 s → pairRun k done s = some s' →
    ∃ d, whileN (bVal (xBin gLt (xName 1) (xCall gLen (aCons (xFld C "plate" (xName 0)) aNil)))) (runB2 C) m [some ⟨.own, objT C s⟩, some ⟨.shr, .int (done : Nat)⟩, x2] none = some (.nx, [some ⟨.own, objT C s'⟩, d, x2], none)
  | 0, _, _, _, _, _, _, e => by cases e
  | k + 1, m, done, s, s', hm, W, e => by
    obtain ⟨m, rfl⟩ : ∃ m', m = m' + 1 := ⟨m - 1, by omega⟩
    rw [whileN_succ]
    have hc : bVal (xBin gLt (xName 1) (xCall gLen (aCons (xFld C "plate" (xName 0)) aNil))) [some ⟨.own, objT C s⟩, some ⟨.shr, .int (done : Nat)⟩, x2] none = some (decide (done < s.p.length), none) := by
      have : ((done : Int) < (s.p.length : Int)) ↔ done < s.p.length := by omega
      simp [this]
    rw [hc, Option.bind_some]
    unfold FG.pairRun at e
    split at e
    · rename_i hd
      rw [if_pos (by simp [hd])]
      split at e
      · rename_i x y hx hy
        have ax : atI s.p (done : Int) = some x := atI_nat hx
        have ay : atI s.p ((done : Int) + 1) = some y := atI_nat (j := done + 1) hy
        have hc2 : bVal (xBin (gEqX false) (xBin gSubX (xFld C "plate" (xName 0)) (xBin gAdd (xName 1) (xC (.int 1)))) (xUn gNeg (xBin gSubX (xFld C "plate" (xName 0)) (xName 1)))) [some ⟨.own, objT C s⟩, some ⟨.shr, .int (done : Nat)⟩, x2] none = some (decide (y = -x), none) := by simp [ax, ay]
        split at e
        · rename_i hyx
          obtain ⟨d, ih⟩ := pair_loop2 (x2 := x2) k m (done + 2) (by omega) W e
          refine ⟨d, ?_⟩
          have cast : ((done + 2 : Nat) : Int) = (done : Int) + 2 := by omega
          have hb : runB2 C [some ⟨.own, objT C s⟩, some ⟨.shr, .int (done : Nat)⟩, x2] none = some (.nx, [some ⟨.own, objT C s⟩, some ⟨.shr, .int ((done + 2 : Nat) : Int)⟩, x2], none) := by
            unfold runB2
            rw [e_if, hc2, Option.bind_some, if_pos (by simp [hyx]), e_aug hR0 hn (k := .shr) (kd := .shr) (a := (done : Int)) (b := 2) rfl rfl, cast]
            rfl
          rw [hb, Option.bind_some]
          exact ih
        · rename_i hyx
          obtain ⟨t, e1, e2⟩ := Option.bind_eq_some_iff.mp e
          obtain ⟨d, ih⟩ := pair_loop2 (x2 := x2) k m done (by omega) (FG.wf_slide hR0 _ _ _ _ W e1) e2
          refine ⟨d, ?_⟩
          have hm := e_mm (C := C) (s := s) (s' := t) (r := [some ⟨.shr, .int (done : Nat)⟩, x2]) (e := none) (x := "slide") (m := 2) (g := g_Sliding_slide C) (fa := aCons (xName 1) (aCons (xC (.bl true)) aNil)) (cs := [⟨.shr, .int (done : Nat)⟩, ⟨.shr, .bl true⟩]) (by decide) (by simp) rfl rfl (R_slide hn W e1)
          have hb : runB2 C [some ⟨.own, objT C s⟩, some ⟨.shr, .int (done : Nat)⟩, x2] none = some (.nx, [some ⟨.own, objT C t⟩, some ⟨.shr, .int (done : Nat)⟩, x2], none) := by
            unfold runB2
            rw [e_if, hc2, Option.bind_some, if_neg (by simp [hyx])]
            exact hm
          rw [hb, Option.bind_some]
          exact ih
      · cases e
    · rename_i hd
      cases e
      rw [if_neg (by simp [hd])]
      exact ⟨_, rfl⟩
theorem R_run {F : Nat} (hF : F ≤ 1000) {s s' : Sl} (W : WF n R0 s) (e : FG.runS F s = some s') : g_Sliding_run C (objT C s) [] = some (objT C s', .non) := by
  unfold FG.runS at e
  obtain ⟨f, e1, e⟩ := Option.bind_eq_some_iff.mp e
  obtain ⟨z, e2, e⟩ := Option.bind_eq_some_iff.mp e
  have hl := W.pl.length
  have W1 := FG.linkRun_pres (FG.wf_slide hR0) FG.wf_turn F 0 f W e2
  obtain ⟨g, l1⟩ := link_loop (C := C) hR0 hn hF F 1000 0 f hF W e2
  obtain ⟨d, l2⟩ := pair_loop2 (C := C) hR0 hn (x2 := g) F 1000 z.1 hF W1 e
  have e0 : slotsM ["self", "done", "found"] (objT C s) [] = [some ⟨.own, objT C s⟩, none, none] := rfl
  unfold g_Sliding_run runM b_Sliding_run
  rw [e0]
  have m3 := e_pmV (C := C) (s := s) (e := none) (k := .vw) (x := "linked") (m := 2) (g := g_Sliding_linked C) (fo := xName 0) (fa := aCons (xC (.int 0)) aNil) (S := [some ⟨.own, objT C s⟩, none, none]) (cs := [⟨.shr, .int ((0 : Nat) : Int)⟩]) (b := true) (t := resT f) (by decide) (by simp) (by simp) rfl (R_linked (by omega) e1) (resT_flat f)
  have okr : okItem ⟨.shr, resT f⟩ = true := ok_flat (resT_flat f)
  have h1 : sParN [1, 2] (aCons (xC (.int 0)) (aCons (xPm C "linked" 2 (g_Sliding_linked C) (xName 0) (aCons (xC (.int 0)) aNil)) aNil)) [some ⟨.own, objT C s⟩, none, none] none = some (.nx, [some ⟨.own, objT C s⟩, some ⟨.shr, .int ((0 : Nat) : Int)⟩, some ⟨.shr, resT f⟩], none) := by
    rw [e_parN, e_acons, e_c, Option.bind_some, e_acons, m3]
    simp [okr]
  rw [e_seq, h1, Option.bind_some]
  dsimp only
  rw [e_seq, e_while]
  show endM ((whileN _ (runB1 C) 1000 _ none).bind _) = _
  rw [l1, Option.bind_some]
  dsimp only
  rw [e_while]
  show endM (whileN _ (runB2 C) 1000 _ none) = _
  rw [l2]
  rfl
end
end DL

set_option Elab.async false
set_option linter.all false
set_option maxRecDepth 100000
set_option maxHeartbeats 2000000
namespace DL
open PySem PySem.Spec PyProof.Rows L2
open FG (sub hom Lets flat low und ring rots rmin core Plate Good slideA slideL slideB Nbr nxt slidw ones setw Sl slideS WF firsts firstsGo ren)

theorem first_zip {p : List Int} : ∀ (r seen : List Int), p = seen ++ r → ((r.zipIdx seen.length).filter fun z => !decide (-z.1 ∈ p.take z.2)).map (fun z => z.1) = firstsGo seen r
  | [], seen, _ => rfl
  | x :: r, seen, e => by
    have ih := first_zip (p := p) r (seen ++ [x]) (by rw [e]; simp)
    rw [List.length_append, List.length_singleton] at ih
    have ht : p.take seen.length = seen := by rw [e, List.take_left]
    rw [List.zipIdx_cons, List.filter_cons]
    unfold FG.firstsGo
    by_cases hm : -x ∈ seen
    · rw [if_neg (by simp [ht, hm]), if_pos hm]
      exact ih
    · rw [if_pos (by simp [ht, hm]), if_neg hm, List.map_cons, ih]
@[simp] theorem g_in_wT (neg : Bool) (x : Int) (w : List Int) : gInX neg (.int x) (wT w) = some (true, .bl (if neg then !decide (x ∈ w) else decide (x ∈ w))) := by
  show ((((w.map T.int).mapM T.int?).map fun ns => (true, T.bl (if neg then !decide (x ∈ ns) else decide (x ∈ ns)))).orElse fun _ => _) = _
  rw [mapM_int]
  rfl
theorem it_enV {S : Slots} {e : Option Src} {f : Ex} {w : List Int} {k : Kd} (h : f S e = some (⟨k, wT w⟩, e)) : iEn f S e = some (w.zipIdx.map fun z => T.tup [.int (z.2 : Nat), .int z.1], e) := by
  unfold iEn
  rw [h]
  show some (enT (w.map T.int), e) = _
  rw [enT_map, List.zipIdx_map, List.map_map]
  rfl
theorem it_enLL {S : Slots} {e : Option Src} {f : Ex} {w : List Int} (h : f S e = some (⟨.shr, wL w⟩, e)) : iEn f S e = some (w.zipIdx.map fun z => T.tup [.int (z.2 : Nat), .int z.1], e) := by
  unfold iEn
  rw [h]
  show (if (Kd.shr = .vw ∨ (w.map T.int).all T.flat = false) then none else some (enT (w.map T.int), e)) = _
  rw [if_neg (by rw [all_int]; simp), enT_map, List.zipIdx_map, List.map_map]
  rfl
theorem g_rep {n : Nat} (h : n ≤ 1000000) : gMul (.lst [wT [0]]) (.int n) = some (true, rL (List.replicate n [0])) := by
  have hz := sizeLine_eq
  unfold gMul
  dsimp only
  rw [if_pos ⟨rfl, by omega, by omega, by rw [Int.toNat_natCast]; simp; omega⟩, Int.toNat_natCast]
  congr 2
  unfold rL
  congr 1
  clear h
  induction n with
  | zero => rfl
  | succ n ih => rw [List.replicate_succ, List.replicate_succ, List.flatten_cons, List.map_cons, ih]; rfl
/-- the letters' late names, told for those in a -/
def lateL (fs a : List Int) (n : Nat) : List (List Int) := (List.range n).map fun (i : Nat) => if ((i : Int) + 1 ∈ a ∨ -((i : Int) + 1) ∈ a) then [ren fs ((i : Int) + 1)] else [0]
theorem lateL_len (fs a : List Int) (n : Nat) : (lateL fs a n).length = n := by simp [lateL]
theorem lateL_get {fs a : List Int} {n i : Nat} (h : i < (lateL fs a n).length) : (lateL fs a n)[i] = if ((i : Int) + 1 ∈ a ∨ -((i : Int) + 1) ∈ a) then [ren fs ((i : Int) + 1)] else [0] := by
  simp [lateL]
theorem lateL_nil (fs : List Int) (n : Nat) : lateL fs [] n = List.replicate n [0] := by
  unfold lateL
  rw [List.eq_replicate_iff]
  refine ⟨by simp, fun w m => ?_⟩
  obtain ⟨i, _, rfl⟩ := List.mem_map.mp m
  simp
theorem lateL_set {fs a : List Int} {n : Nat} {x : Int} (hx : x ≠ 0 ∧ -(n : Int) ≤ x ∧ x ≤ n) (hf : x ∈ fs) (hn : -x ∉ fs) : (lateL fs a n).set (x.natAbs - 1) (if x > 0 then [(fs.idxOf x : Int) + 1] else [-(fs.idxOf x : Int) - 1]) = lateL fs (a ++ [x]) n := by
  apply List.ext_getElem
  · rw [List.length_set, lateL_len, lateL_len]
  · intro i h1 h2
    rw [lateL_len] at h2
    rw [List.getElem_set, lateL_get, lateL_get]
    by_cases hi : x.natAbs - 1 = i
    · rw [if_pos hi]
      by_cases hp : x > 0
      · have ei : (i : Int) + 1 = x := by omega
        rw [if_pos hp, ei, if_pos (.inl (by simp)), ren, if_pos hf]
      · have ei : (i : Int) + 1 = -x := by omega
        rw [if_neg hp, ei, if_pos (.inr (by simp)), ren, if_neg hn, Int.neg_neg]
    · rw [if_neg hi]
      have c1 : ((i : Int) + 1 ∈ a ++ [x] ∨ -((i : Int) + 1) ∈ a ++ [x]) ↔ ((i : Int) + 1 ∈ a ∨ -((i : Int) + 1) ∈ a) := by
        rw [List.mem_append, List.mem_append, List.mem_singleton, List.mem_singleton]
        constructor
        · rintro ((h | h) | (h | h))
          · exact .inl h
          · omega
          · exact .inr h
          · omega
        · rintro (h | h)
          · exact .inl (.inl h)
          · exact .inr (.inl h)
      by_cases hc : ((i : Int) + 1 ∈ a ∨ -((i : Int) + 1) ∈ a)
      · rw [if_pos hc, if_pos (c1.mpr hc)]
      · rw [if_neg hc, if_neg fun z => hc (c1.mp z)]
theorem sub_lateL {n : Nat} {fs : List Int} (hall : ∀ x : Int, (x ≠ 0 ∧ -(n : Int) ≤ x ∧ x ≤ n) → x ∈ fs ∨ -x ∈ fs) (hone : ∀ x ∈ fs, -x ∉ fs) {l : Int} (hl : l ≠ 0 ∧ -(n : Int) ≤ l ∧ l ≤ n) : sub (lateL fs fs n) l = [ren fs l] := by
  have key : ∀ i : Nat, i < n → (lateL fs fs n).getD i [] = [ren fs ((i : Int) + 1)] := fun i hi => by
    rw [List.getD_eq_getElem?_getD, List.getElem?_eq_getElem (by rw [lateL_len]; exact hi)]
    unfold lateL
    rw [List.getElem_map, List.getElem_range, if_pos (hall _ (by omega))]
    rfl
  unfold FG.sub
  by_cases hp : l > 0
  · rw [if_pos hp, key _ (by omega)]
    congr 2
    omega
  · rw [if_neg hp, key _ (by omega)]
    have e : (((-l - 1).toNat : Int) + 1) = -l := by omega
    rw [e]
    show [-(ren fs (-l))] = [ren fs l]
    congr 1
    unfold FG.ren
    rw [Int.neg_neg]
    rcases hall l hl with h | h
    · rw [if_neg (hone l h), if_pos h]
      omega
    · have : l ∉ fs := fun m => hone l m h
      rw [if_pos h, if_neg this]
      omega
def lateB : Sx := sAsg (xIf (bVal (xBin gGt (xName 3) (xC (.int 0)))) (xCall gTup (aCons (xBin gAdd (xName 2) (xC (.int 1))) aNil)) (xCall gTup (aCons (xBin DL.gSub (xUn gNeg (xName 2)) (xC (.int 1))) aNil))) (gIxL 4 (xBin DL.gSub (xCall gAbs (aCons (xName 3) aNil)) (xC (.int 1))))
theorem late_loop {n : Nat} {fs : List Int} (nd : fs.Nodup) (hL : ∀ x ∈ fs, x ≠ 0 ∧ -(n : Int) ≤ x ∧ x ≤ n) (hone : ∀ x ∈ fs, -x ∉ fs) {x0 x1 x5 x6 x7 : Option Cell} : ∀ (b a : List Int) (c2 c3 : Option Cell), fs = a ++ b →
    ∃ y2 y3, forL (gT 2 (gsCons (gN 2) (gsCons (gN 3) gsNil))) lateB ((b.zipIdx a.length).map fun z => T.tup [.int (z.2 : Nat), .int z.1]) [x0, x1, c2, c3, some ⟨.own, rL (lateL fs a n)⟩, x5, x6, x7] none = some (.nx, [x0, x1, y2, y3, some ⟨.own, rL (lateL fs fs n)⟩, x5, x6, x7], none)
  | [], a, c2, c3, e => by
    rw [List.append_nil] at e
    subst e
    exact ⟨c2, c3, rfl⟩
  | x :: b, a, c2, c3, e => by
    have hx : x ∈ fs := by rw [e]; simp
    have na : x ∉ a := fun m => by
      rw [e] at nd
      exact (List.nodup_append.mp nd).2.2 _ m x (by simp) rfl
    have ei : fs.idxOf x = a.length := by rw [e]; exact FG.idx_mid na
    obtain ⟨y2, y3, ih⟩ := late_loop nd hL hone (x0 := x0) (x1 := x1) (x5 := x5) (x6 := x6) (x7 := x7) b (a ++ [x]) (some ⟨.shr, .int a.length⟩) (some ⟨.shr, .int x⟩) (by rw [e]; simp)
    refine ⟨y2, y3, ?_⟩
    rw [List.length_append, List.length_singleton] at ih
    rw [List.zipIdx_cons, List.map_cons, forL_cons]
    have hg : gT 2 (gsCons (gN 2) (gsCons (gN 3) gsNil)) (nk .shr (T.tup [.int (a.length : Nat), .int x])) [x0, x1, c2, c3, some ⟨.own, rL (lateL fs a n)⟩, x5, x6, x7] none = some ([x0, x1, some ⟨.shr, .int a.length⟩, some ⟨.shr, .int x⟩, some ⟨.own, rL (lateL fs a n)⟩, x5, x6, x7], none) := by simp
    rw [hg, Option.bind_some]
    have hLx := hL x hx
    have hset := lateL_set (a := a) hLx hx (hone x hx)
    rw [ei] at hset
    have hi := e_gIxL_w (i := 4) (fi := xBin DL.gSub (xCall gAbs (aCons (xName 3) aNil)) (xC (.int 1))) (S := [x0, x1, some ⟨.shr, .int a.length⟩, some ⟨.shr, .int x⟩, some ⟨.own, rL (lateL fs a n)⟩, x5, x6, x7]) (e := none) (k := .shr) (x := (if x < 0 then -x else x) - 1) (j := x.natAbs - 1) (ws := lateL fs a n) (w := if x > 0 then [(a.length : Int) + 1] else [-(a.length : Int) - 1]) (kc := .shr) (by simp) (abs_idx hLx.1) (by rw [lateL_len]; omega) rfl
    rw [hset] at hi
    have hv : xIf (bVal (xBin gGt (xName 3) (xC (.int 0)))) (xCall gTup (aCons (xBin gAdd (xName 2) (xC (.int 1))) aNil)) (xCall gTup (aCons (xBin DL.gSub (xUn gNeg (xName 2)) (xC (.int 1))) aNil)) [x0, x1, some ⟨.shr, .int a.length⟩, some ⟨.shr, .int x⟩, some ⟨.own, rL (lateL fs a n)⟩, x5, x6, x7] none = some (⟨.shr, wT (if x > 0 then [(a.length : Int) + 1] else [-(a.length : Int) - 1])⟩, none) := by
      by_cases hp : 0 < x
      · simp [hp, tupI]
      · simp [hp, tupI]
    have hb : lateB [x0, x1, some ⟨.shr, .int a.length⟩, some ⟨.shr, .int x⟩, some ⟨.own, rL (lateL fs a n)⟩, x5, x6, x7] none = some (.nx, [x0, x1, some ⟨.shr, .int a.length⟩, some ⟨.shr, .int x⟩, some ⟨.own, rL (lateL fs (a ++ [x]) n)⟩, x5, x6, x7], none) := by
      unfold lateB
      rw [e_asg, hv, Option.bind_some, hi]
      rfl
    rw [hb, Option.bind_some]
    exact ih
/-- what the told plate is, from the end of the run -/
def toldT (n : Nat) (s : Sl) : T := .tup [wT (s.p.map (ren (firsts s.p))), rT (s.ws.map (hom (lateL (firsts s.p) (firsts s.p) n))), rT ((firsts s.p).map fun x => hom s.bs [x])]
theorem R_renamed {C : Addr} {n : Nat} {R0 : List (List Int)} {s : Sl} (hn : n ≤ 400) (W : WF n R0 s) : g_Sliding_renamed C [objT C s] = some (true, toldT n s) := by
  have hz := sizeLine_eq
  have hp := W.pl
  have hlen := hp.length
  have fl := FG.firsts_len hp
  have nd : (firsts s.p).Nodup := FG.firstsGo_nodup hp.nd
  have fsub : ∀ x ∈ firsts s.p, x ∈ s.p := fun x m => (FG.mem_firstsGo m).1
  have hL : ∀ x ∈ firsts s.p, x ≠ 0 ∧ -(n : Int) ≤ x ∧ x ≤ n := fun x m => (hp.mem x).mp (fsub x m)
  have hone : ∀ x ∈ firsts s.p, -x ∉ firsts s.p := fun x m => FG.firstsGo_one (hp.nz x (fsub x m)) m
  have hall : ∀ x : Int, (x ≠ 0 ∧ -(n : Int) ≤ x ∧ x ≤ n) → x ∈ firsts s.p ∨ -x ∈ firsts s.p := fun x hx => FG.firsts_all ((hp.mem x).mpr hx)
  have e0 : slots0 ["self", "firsts", "k", "end", "late", "told", "backs", "word"] [objT C s] = [some ⟨.shr, objT C s⟩, none, none, none, none, none, none, none] := rfl
  unfold g_Sliding_renamed runN b_Sliding_renamed
  rw [e0]
  have h1 : xLc (iEn (xFld C "plate" (xName 0))) (gT 2 (gsCons (gN 2) (gsCons (gN 3) gsNil))) (bVal (xBin (gInX true) (xUn gNeg (xName 3)) (xSl gSl (xFld C "plate" (xName 0)) oNone (oSome (xName 2))))) (xName 3) [2, 3] [some ⟨.shr, objT C s⟩, none, none, none, none, none, none, none] none = some (⟨.own, wL (firsts s.p)⟩, none) := by
    have := lc_gen (E := fun z : Int × Nat => T.tup [.int (z.2 : Nat), .int z.1]) (O := T.int) (G := fun z => z.1) (P := fun z => !decide (-z.1 ∈ s.p.take z.2)) (fun _ => rfl) (it := iEn (xFld C "plate" (xName 0))) (g := gT 2 (gsCons (gN 2) (gsCons (gN 3) gsNil))) (c := bVal (xBin (gInX true) (xUn gNeg (xName 3)) (xSl gSl (xFld C "plate" (xName 0)) oNone (oSome (xName 2))))) (f := xName 3) (S := [some ⟨.shr, objT C s⟩, none, none, none, none, none, none, none]) (vs := [2, 3]) (e := none)
      (Sx := fun z => [some ⟨.shr, objT C s⟩, none, some ⟨.shr, .int (z.2 : Nat)⟩, some ⟨.shr, .int z.1⟩, none, none, none, none]) (xs := s.p.zipIdx) (it_enV (k := .shr) (by simp)) (fun z _ => by simp) (fun z _ => by simp [cut_to']) (fun z _ _ => by simp) (by rw [List.length_zipIdx]; omega)
    rw [this]
    have hz2 := first_zip (p := s.p) s.p [] rfl
    show some ((⟨.own, .lst _⟩ : Cell), none) = some (⟨.own, .lst ((firsts s.p).map T.int)⟩, none)
    have hz3 : firsts s.p = ((s.p.zipIdx).filter fun z => !decide (-z.1 ∈ s.p.take z.2)).map (fun z => z.1) := hz2.symm
    rw [hz3, List.map_map]
    rfl
  rw [e_seq, e_set, h1, Option.bind_some, keep_own_wL, Option.bind_some, Option.bind_some]
  dsimp only [List.set_cons_succ, List.set_cons_zero]
  have hrep := g_rep (n := n) (by omega)
  have h2 : sSet 4 (xBin gMul (xLst (aCons (xCall gTup (aCons (xC (.int 0)) aNil)) aNil)) (xCall gLen (aCons (xName 1) aNil))) [some ⟨.shr, objT C s⟩, some ⟨.own, wL (firsts s.p)⟩, none, none, none, none, none, none] none = some (.nx, [some ⟨.shr, objT C s⟩, some ⟨.own, wL (firsts s.p)⟩, none, none, some ⟨.own, rL (lateL (firsts s.p) [] n)⟩, none, none, none], none) := by
    have a1 : xLst (aCons (xCall gTup (aCons (xC (.int 0)) aNil)) aNil) [some ⟨.shr, objT C s⟩, some ⟨.own, wL (firsts s.p)⟩, none, none, none, none, none, none] none = some (⟨.own, .lst [wT [0]]⟩, none) := by simp [tupI, jl]
    have a2 : xCall gLen (aCons (xName 1) aNil) [some ⟨.shr, objT C s⟩, some ⟨.own, wL (firsts s.p)⟩, none, none, none, none, none, none] none = some (⟨.shr, .int n⟩, none) := by simp [fl]
    rw [lateL_nil, e_set, e_bin, a1, Option.bind_some, a2, Option.bind_some, hrep, Option.bind_some, Option.bind_some, kOf_rL, keep_own_rL]
    rfl
  rw [e_seq, h2, Option.bind_some]
  dsimp only
  obtain ⟨y2, y3, hloop⟩ := late_loop nd hL hone (x0 := some ⟨.shr, objT C s⟩) (x1 := some ⟨.shr, wL (firsts s.p)⟩) (x5 := none) (x6 := none) (x7 := none) (firsts s.p) [] none none (by simp)
  have hsh : share 1 [some ⟨.shr, objT C s⟩, some ⟨.own, wL (firsts s.p)⟩, none, none, some ⟨.own, rL (lateL (firsts s.p) [] n)⟩, none, none, none] = [some ⟨.shr, objT C s⟩, some ⟨.shr, wL (firsts s.p)⟩, none, none, some ⟨.own, rL (lateL (firsts s.p) [] n)⟩, none, none, none] := rfl
  have hit := it_enLL (S := [some ⟨.shr, objT C s⟩, some ⟨.shr, wL (firsts s.p)⟩, none, none, some ⟨.own, rL (lateL (firsts s.p) [] n)⟩, none, none, none]) (e := none) (f := xName 1) (w := firsts s.p) (by simp)
  rw [e_seq]
  have hfor : (fun (S : Slots) (e : Option Src) => (sFor (iEn (xName 1)) (gT 2 (gsCons (gN 2) (gsCons (gN 3) gsNil))) lateB (share 1 S) e)) [some ⟨.shr, objT C s⟩, some ⟨.own, wL (firsts s.p)⟩, none, none, some ⟨.own, rL (lateL (firsts s.p) [] n)⟩, none, none, none] none = some (.nx, [some ⟨.shr, objT C s⟩, some ⟨.shr, wL (firsts s.p)⟩, y2, y3, some ⟨.own, rL (lateL (firsts s.p) (firsts s.p) n)⟩, none, none, none], none) := by
    show sFor _ _ _ (share 1 _) none = _
    rw [hsh, e_for, hit, Option.bind_some]
    exact hloop
  show endN ((((fun (S : Slots) (e : Option Src) => (sFor (iEn (xName 1)) (gT 2 (gsCons (gN 2) (gsCons (gN 3) gsNil))) lateB (share 1 S) e)) _ _).bind _)) = _
  rw [hfor, Option.bind_some]
  dsimp only
  -- letters by their late names
  have lnz : ∀ w ∈ lateL (firsts s.p) (firsts s.p) n, w.length ≤ 1 := fun w m => by
    obtain ⟨i, _, rfl⟩ := List.mem_map.mp m
    split <;> simp
  have put1 : ∀ w : List Int, Lets n w → w.length ≤ 400 → g_letters_put C [rL (lateL (firsts s.p) (firsts s.p) n), wT w] = some (true, wT (hom (lateL (firsts s.p) (firsts s.p) n) w)) := fun w Lw hw => by
    have hf := flat_len (sub_len lnz) w
    refine R_letters_put (row_rL _) (fun v mv => by have := lnz v mv; omega) (by rw [lateL_len]; exact Lw) (by omega) ?_
    have := FG.low_length (flat (sub (lateL (firsts s.p) (firsts s.p) n)) w)
    unfold FG.hom
    omega
  have Lone : ∀ x ∈ s.p, Lets n [x] := fun x m y my => by
    rw [List.mem_singleton.mp my]
    exact (hp.mem x).mp m
  have hname : ∀ x ∈ s.p, hom (lateL (firsts s.p) (firsts s.p) n) [x] = [ren (firsts s.p) x] := fun x m => by
    rw [FG.hom_one, sub_lateL hall hone ((hp.mem x).mp m)]
    rfl
  have h5 : xLc (iSeqO (xFld C "plate" (xName 0))) (gN 3) bYes (xBin gSubX (xCall (gArity 2 (g_letters_put C)) (aCons (xName 4) (aCons (xCall gTup (aCons (xName 3) aNil)) aNil))) (xC (.int 0))) [3] [some ⟨.shr, objT C s⟩, some ⟨.shr, wL (firsts s.p)⟩, y2, y3, some ⟨.own, rL (lateL (firsts s.p) (firsts s.p) n)⟩, none, none, none] none = some (⟨.own, wL (s.p.map (ren (firsts s.p)))⟩, none) := by
    refine lc_int (E := T.int) (Sx := fun x => [some ⟨.shr, objT C s⟩, some ⟨.shr, wL (firsts s.p)⟩, y2, some ⟨.shr, .int x⟩, some ⟨.own, rL (lateL (firsts s.p) (firsts s.p) n)⟩, none, none, none]) (by simp) (fun x _ => by simp) (fun x m => ?_) (by omega)
    have hput := put1 [x] (Lone x m) (by simp)
    rw [hname x m] at hput
    have a0 : atI [ren (firsts s.p) x] 0 = some (ren (firsts s.p) x) := atI_nat (j := 0) rfl
    simp [tupI, hput, a0]
  have h5' : sSet 5 (xCall gTuple (aCons (xLc (iSeqO (xFld C "plate" (xName 0))) (gN 3) bYes (xBin gSubX (xCall (gArity 2 (g_letters_put C)) (aCons (xName 4) (aCons (xCall gTup (aCons (xName 3) aNil)) aNil))) (xC (.int 0))) [3]) aNil)) [some ⟨.shr, objT C s⟩, some ⟨.shr, wL (firsts s.p)⟩, y2, y3, some ⟨.own, rL (lateL (firsts s.p) (firsts s.p) n)⟩, none, none, none] none = some (.nx, [some ⟨.shr, objT C s⟩, some ⟨.shr, wL (firsts s.p)⟩, y2, y3, some ⟨.own, rL (lateL (firsts s.p) (firsts s.p) n)⟩, some ⟨.shr, wT (s.p.map (ren (firsts s.p)))⟩, none, none], none) := by
    rw [e_set, e_call, e_acons, h5]
    simp
  rw [e_seq, h5', Option.bind_some]
  dsimp only
  have h6 : xLc (iSeqO (xName 1)) (gN 3) bYes (xCall (gArity 2 (g_letters_put C)) (aCons (xFld C "backs" (xName 0)) (aCons (xCall gTup (aCons (xName 3) aNil)) aNil))) [3] [some ⟨.shr, objT C s⟩, some ⟨.shr, wL (firsts s.p)⟩, y2, y3, some ⟨.own, rL (lateL (firsts s.p) (firsts s.p) n)⟩, some ⟨.shr, wT (s.p.map (ren (firsts s.p)))⟩, none, none] none = some (⟨.own, rL ((firsts s.p).map fun x => hom s.bs [x])⟩, none) := by
    refine lc_w (E := T.int) (Sx := fun x => [some ⟨.shr, objT C s⟩, some ⟨.shr, wL (firsts s.p)⟩, y2, some ⟨.shr, .int x⟩, some ⟨.own, rL (lateL (firsts s.p) (firsts s.p) n)⟩, some ⟨.shr, wT (s.p.map (ren (firsts s.p)))⟩, none, none]) (by simp) (fun x _ => by simp) (fun x m => ?_) (by omega)
    have bl : ∀ v ∈ s.bs, v.length ≤ 400 := fun v mv => (W.bs v mv).2.2
    have hput := R_letters_put (C := C) (row_rL s.bs) (w := [x]) (fun v mv => by have := bl v mv; omega) (by rw [W.lb]; exact Lone x (fsub x m)) (by have := flat_len (sub_len bl) [x]; simp at this; omega) (by
      rw [FG.hom_one]
      have := FG.low_length (sub s.bs x)
      have := sub_len bl x
      omega)
    simp [tupI, hput]
  rw [e_seq, e_set, h6, Option.bind_some, keep_own_rL, Option.bind_some, Option.bind_some]
  dsimp only [List.set_cons_succ, List.set_cons_zero]
  have h7 : xLc (iSeqO (xFld C "words" (xName 0))) (gN 7) bYes (xCall (gArity 2 (g_letters_put C)) (aCons (xName 4) (aCons (xName 7) aNil))) [7] [some ⟨.shr, objT C s⟩, some ⟨.shr, wL (firsts s.p)⟩, y2, y3, some ⟨.own, rL (lateL (firsts s.p) (firsts s.p) n)⟩, some ⟨.shr, wT (s.p.map (ren (firsts s.p)))⟩, some ⟨.own, rL ((firsts s.p).map fun x => hom s.bs [x])⟩, none] none = some (⟨.own, rL (s.ws.map (hom (lateL (firsts s.p) (firsts s.p) n)))⟩, none) := by
    refine lc_w (E := wT) (Sx := fun w => [some ⟨.shr, objT C s⟩, some ⟨.shr, wL (firsts s.p)⟩, y2, y3, some ⟨.own, rL (lateL (firsts s.p) (firsts s.p) n)⟩, some ⟨.shr, wT (s.p.map (ren (firsts s.p)))⟩, some ⟨.own, rL ((firsts s.p).map fun x => hom s.bs [x])⟩, some ⟨.shr, wT w⟩]) (by simp) (fun w _ => by simp) (fun w m => ?_) (by rw [W.lw]; omega)
    have hput := put1 w (W.ws w m).1 (W.ws w m).2.2
    simp [hput]
  have ht : ∀ a b c, gTup [wT a, rT b, rT c] = some (true, .tup [wT a, rT b, rT c]) := fun a b c => tupN rfl (by simp)
  rw [e_ret, e_call, e_acons]
  have n5 : xName 5 [some ⟨.shr, objT C s⟩, some ⟨.shr, wL (firsts s.p)⟩, y2, y3, some ⟨.own, rL (lateL (firsts s.p) (firsts s.p) n)⟩, some ⟨.shr, wT (s.p.map (ren (firsts s.p)))⟩, some ⟨.own, rL ((firsts s.p).map fun x => hom s.bs [x])⟩, none] none = some (⟨.shr, wT (s.p.map (ren (firsts s.p)))⟩, none) := by simp
  rw [n5, Option.bind_some, e_acons, e_call, e_acons, h7]
  simp [ht, endN, toldT]
theorem R_told {C : Addr} {n : Nat} {p : List Int} {R0 : List (List Int)} {F : Nat} {s : Sl} (hn : n ≤ 400) (hF : F ≤ 1000) (hp : Plate n p) (d : FG.Dec (FG.RR p) p R0) (e : FG.runS F ⟨p, ones n, ones n⟩ = some s) : WF n R0 s ∧ g_told_plate C [wT p] = some (true, toldT n s) := by
  have hR0 : ∀ r ∈ R0, Lets n r := fun r mr x mx => (hp.mem x).mp (d.perm.mem_iff.mp (List.mem_flatten.mpr ⟨r, mr, mx⟩))
  have W0 := FG.wf_start hp d
  have W := FG.run_pres (FG.wf_slide hR0) FG.wf_turn W0 e
  refine ⟨W, ?_⟩
  have e0 : slots0 ["plate", "found"] [wT p] = [some ⟨.shr, wT p⟩, none] := rfl
  unfold g_told_plate runN b_told_plate
  rw [e0]
  have h1 : xMk C 1 (g_Sliding___init__ C) (aCons (xName 0) aNil) [some ⟨.shr, wT p⟩, none] none = some (⟨.own, objT C ⟨p, ones n, ones n⟩⟩, none) := by
    unfold xMk
    have ha : aCons (xName 0) aNil [some ⟨.shr, wT p⟩, none] none = some ([⟨.shr, wT p⟩], none) := by simp
    rw [ha, Option.bind_some]
    dsimp only
    rw [if_pos ⟨rfl, rfl⟩]
    have hi := R_init (C := C) hp (by omega)
    rw [ts_cons, ts_nil, hi]
    rfl
  rw [e_seq, e_set, h1, Option.bind_some, keep_objT, Option.bind_some, Option.bind_some]
  dsimp only [List.set_cons_succ, List.set_cons_zero]
  have h2 : sMm 1 C "run" 0 (g_Sliding_run C) aNil [some ⟨.shr, wT p⟩, some ⟨.own, objT C ⟨p, ones n, ones n⟩⟩] none = some (.nx, [some ⟨.shr, wT p⟩, some ⟨.own, objT C s⟩], none) := by
    have hr := R_run (C := C) hR0 hn hF W0 e
    unfold sMm
    rw [e_anil]
    simp only [Option.bind_eq_bind, Option.bind_some, List.getElem?_cons_succ, List.getElem?_cons_zero, ts_nil]
    unfold objT at hr ⊢
    dsimp only
    rw [if_pos ⟨rfl, by decide, rfl, rfl⟩, hr, Option.bind_some]
    dsimp only
    rw [if_pos (show T.non.flat = true from rfl)]
    rfl
  rw [e_seq, h2, Option.bind_some]
  dsimp only
  have h3 := e_pmV (C := C) (s := s) (e := none) (k := .vw) (x := "renamed") (m := 1) (g := g_Sliding_renamed C) (fo := xName 1) (fa := aNil) (S := [some ⟨.shr, wT p⟩, some ⟨.own, objT C s⟩]) (cs := []) (b := true) (t := toldT n s) (by decide) (by simp) (by simp) rfl (R_renamed hn W) rfl
  rw [e_ret, h3]
  rfl
end DL

set_option Elab.async false
set_option linter.all false
set_option maxRecDepth 100000
set_option maxHeartbeats 2000000
namespace DL
open PySem PySem.Spec PyProof.Rows L2
open FG (sub hom Lets flat low und ring rots rmin core Plate Good slideA slideL slideB Nbr nxt slidw ones setw Sl slideS WF firsts firstsGo ren)

/-! ### what may be shown -/
structure Sh (c k : Nat) (d : PyData) : Prop where
  lay : d.canLay0 = true
  dep : d.depth ≤ c
  wgt : d.weight ≤ k
  sho : d.intsShort 13 = true
  shw : d.showable = true
  nod : d.hasDict = false
theorem sh_all {c k : Nat} : ∀ {ds : List PyData}, (∀ d ∈ ds, Sh c k d) → PyData.canLayAll0 ds = true ∧ PyData.depthAll ds ≤ c ∧ PyData.weightAll ds ≤ (k + 1) * ds.length ∧ PyData.intsShortAll 13 ds = true ∧ PyData.showableAll ds = true ∧ PyData.hasDictAll ds = false
  | [], _ => ⟨rfl, Nat.zero_le _, Nat.zero_le _, rfl, rfl, rfl⟩
  | d :: ds, h => by
    obtain ⟨a1, a2, a3, a4, a5, a6⟩ := h d List.mem_cons_self
    obtain ⟨b1, b2, b3, b4, b5, b6⟩ := sh_all (ds := ds) fun x m => h x (List.mem_cons_of_mem _ m)
    refine ⟨?_, ?_, ?_, ?_, ?_, ?_⟩
    · rw [PyData.canLayAll0, a1, b1]; rfl
    · rw [PyData.depthAll]; omega
    · rw [PyData.weightAll, List.length_cons, Nat.mul_add]; omega
    · rw [PyData.intsShortAll, a4, b4]; rfl
    · rw [PyData.showableAll, a5, b5]; rfl
    · rw [PyData.hasDictAll, a6, b6]; rfl
theorem sh_tup {c k m : Nat} {ds : List PyData} (h : ∀ d ∈ ds, Sh c k d) (hm : (k + 1) * ds.length ≤ m) : Sh (c + 1) m (.tuple ds) := by
  obtain ⟨a1, a2, a3, a4, a5, a6⟩ := sh_all h
  refine ⟨?_, ?_, ?_, ?_, ?_, ?_⟩
  · rw [PyData.canLay0]; exact a1
  · rw [PyData.depth]; omega
  · rw [PyData.weight]; omega
  · rw [PyData.intsShort]; exact a4
  · rw [PyData.showable]; exact a5
  · rw [PyData.hasDict]; exact a6
def intOk (x : Int) : Bool := decide ((PyData.weight (.int x)) ≤ 11) && PyData.intsShort 13 (.int x) && PyData.showable (.int x)
theorem ints_ok : [-5, -4, -3, -2, -1, 0, 1, 2, 3, 4, 5].all intOk = true := by decide +kernel
theorem sh_int {x : Int} (h : -5 ≤ x ∧ x ≤ 5) : Sh 0 11 (.int x) := by
  have hm : x ∈ ([-5, -4, -3, -2, -1, 0, 1, 2, 3, 4, 5] : List Int) := by
    simp only [List.mem_cons, List.mem_nil_iff, or_false]
    omega
  have := List.all_eq_true.mp ints_ok x hm
  unfold intOk at this
  rw [Bool.and_eq_true, Bool.and_eq_true, decide_eq_true_eq] at this
  exact ⟨rfl, Nat.le_refl _, this.1.1, this.1.2, this.2, rfl⟩
def wD (w : List Int) : PyData := .tuple (w.map PyData.int)
def rD (ws : List (List Int)) : PyData := .tuple (ws.map wD)
theorem pyL_int (w : List Int) : T.pyL (w.map T.int) = some (w.map PyData.int) := by
  induction w with
  | nil => rfl
  | cons x w ih => rw [List.map_cons, T.pyL, ih]; rfl
theorem py_wT (w : List Int) : (wT w).py = some (wD w) := by
  show (T.tup (w.map T.int)).py = _
  rw [T.py, pyL_int]
  rfl
theorem pyL_wT (ws : List (List Int)) : T.pyL (ws.map wT) = some (ws.map wD) := by
  induction ws with
  | nil => rfl
  | cons x w ih => rw [List.map_cons, T.pyL, py_wT, ih]; rfl
theorem py_rT (ws : List (List Int)) : (rT ws).py = some (rD ws) := by
  show (T.tup (ws.map wT)).py = _
  rw [T.py, pyL_wT]
  rfl
theorem sh_w {w : List Int} {m : Nat} (h : ∀ x ∈ w, -5 ≤ x ∧ x ≤ 5) (hm : 12 * w.length ≤ m) : Sh 1 m (wD w) := by
  refine sh_tup (c := 0) (k := 11) (fun d md => ?_) (by rw [List.length_map]; omega)
  obtain ⟨x, mx, rfl⟩ := List.mem_map.mp md
  exact sh_int (h x mx)
theorem showOk_of {c k : Nat} {ds : List PyData} (h : Sh c k (.tuple ds)) (hc : c ≤ 64) (hk : k ≤ 1000000) : showOk (.tuple ds) = true := by
  unfold showOk PyData.layable0
  rw [h.lay, h.sho, h.shw, h.nod, decide_eq_true (show (PyData.tuple ds).depth ≤ 64 from Nat.le_trans h.dep hc), decide_eq_true (show (PyData.tuple ds).weight ≤ 2 ^ 20 from Nat.le_trans h.wgt (by omega))]
  rfl
theorem repr_w {n : Nat} {w : List Int} (hn : n ≤ 5) (h : Lets n w) (hl : w.length ≤ 1000) : ∃ x : Str, gRepr [wT w] = some (true, .str x) := by
  refine ⟨(wD w).shown, ?_⟩
  show (wT w).py.bind _ = _
  rw [py_wT, Option.bind_some, if_pos (show showOk (wD w) = true from showOk_of (sh_w (m := 12 * w.length) (fun x mx => by have := h x mx; omega) (Nat.le_refl _)) (by decide) (by omega))]
theorem repr_pair {n : Nat} {w : List Int} {ws : List (List Int)} (hn : n ≤ 5) (h : Lets n w) (hl : w.length ≤ 10) (hws : ∀ v ∈ ws, Lets n v ∧ v.length ≤ 2) (hwl : ws.length ≤ 5) : ∃ x : Str, gRepr [.tup [wT w, rT ws]] = some (true, .str x) := by
  have h1 : Sh 1 125 (wD w) := sh_w (fun x mx => by have := h x mx; omega) (by omega)
  have h2 : Sh 2 125 (rD ws) := sh_tup (c := 1) (k := 24) (fun d md => by
    obtain ⟨v, mv, rfl⟩ := List.mem_map.mp md
    obtain ⟨Lv, lv⟩ := hws v mv
    exact sh_w (fun x mx => by have := Lv x mx; omega) (by omega)) (by rw [List.length_map]; omega)
  have h1' : Sh 2 125 (wD w) := ⟨h1.lay, Nat.le_trans h1.dep (by decide), h1.wgt, h1.sho, h1.shw, h1.nod⟩
  have h3 : Sh 3 252 (.tuple [wD w, rD ws]) := sh_tup (c := 2) (k := 125) (fun d md => by
    rcases List.mem_cons.mp md with rfl | md
    · exact h1'
    · rw [List.mem_singleton.mp md]; exact h2) (by simp)
  refine ⟨(PyData.tuple [wD w, rD ws]).shown, ?_⟩
  have hp : (T.tup [wT w, rT ws]).py = some (.tuple [wD w, rD ws]) := by
    rw [T.py, T.pyL, py_wT, T.pyL, py_rT, T.pyL]
    rfl
  show (T.tup [wT w, rT ws]).py.bind _ = _
  rw [hp, Option.bind_some, if_pos (showOk_of h3 (by decide) (by decide))]
/-! ### the law's slots -/
def stF (f : Nat → Option Cell) : Slots := (List.range 25).map f
def up (f : Nat → Option Cell) (i : Nat) (c : Option Cell) : Nat → Option Cell := fun j => if j = i then c else f j
theorem stF_get (f : Nat → Option Cell) {i : Nat} (h : i < 25) : (stF f)[i]? = some (f i) := by
  unfold stF
  rw [List.getElem?_map, List.getElem?_range h]
  rfl
@[simp] theorem stF_set (f : Nat → Option Cell) (i : Nat) (c : Option Cell) : (stF f).set i c = stF (up f i c) := by
  unfold stF
  apply List.ext_getElem
  · simp
  · intro j h1 h2
    rw [List.getElem_set, List.getElem_map, List.getElem_map]
    unfold up
    simp only [List.getElem_range]
    by_cases e : i = j
    · rw [if_pos e, if_pos e.symm]
    · rw [if_neg e, if_neg fun z => e z.symm]
@[simp] theorem up_same (f : Nat → Option Cell) (i : Nat) (c : Option Cell) : up f i c i = c := by simp [up]
theorem up_ne (f : Nat → Option Cell) {i j : Nat} (c : Option Cell) (h : j ≠ i) : up f i c j = f j := by simp [up, h]
@[simp] theorem stF_len (f : Nat → Option Cell) : (stF f).length = 25 := by simp [stF]
def vk : Kd → Kd
  | .own => .vw
  | q => q
@[simp] theorem vk1 : vk .own = .vw := (rfl)
@[simp] theorem vk2 : vk .shr = .shr := (rfl)
@[simp] theorem vk3 : vk .vw = .vw := (rfl)
theorem nmF {f : Nat → Option Cell} {i : Nat} {k : Kd} {t : T} {e : Option Src} (h : i < 25) (hf : f i = some ⟨k, t⟩) : xName i (stF f) e = some (nk (vk k) t, e) := by
  rw [e_name, stF_get f h, hf]
  cases k <;> rfl
theorem At.of_nbr {n : Nat} {p : List Int} {b : Bool} {e o : Int} (hp : Plate n p) (h : Nbr b p e o) : At p (p.idxOf e) b e o := by
  obtain ⟨me, mo⟩ := h.mem hp
  have le := List.idxOf_lt_length_of_mem me
  have lo := List.idxOf_lt_length_of_mem mo
  have hpos : 0 < p.length := by omega
  have key : ∀ {u v : Int}, u ∈ p → nxt p u = v → p[(p.idxOf u + 1) % p.length]? = some v := fun {u v} mu hv => by
    have hl := Nat.mod_lt (p.idxOf u + 1) hpos
    unfold FG.nxt at hv
    rw [List.getD_eq_getElem?_getD, List.getElem?_eq_getElem hl] at hv
    rw [List.getElem?_eq_getElem hl]
    exact congrArg some hv
  refine ⟨le, by rw [List.getElem?_eq_getElem le, List.getElem_idxOf le], ?_⟩
  cases b with
  | true => exact key h.1 h.2
  | false =>
    have h1 := key h.1 h.2
    have hl := Nat.mod_lt (p.idxOf o + 1) hpos
    have e1 : p.idxOf e = (p.idxOf o + 1) % p.length := by
      obtain ⟨hj, hu⟩ := List.getElem?_eq_some_iff.mp h1
      rw [← hu]
      exact List.Nodup.idxOf_getElem hp.nd _ hj
    have e2 : (p.idxOf e + (p.length - 1)) % p.length = p.idxOf o := by
      rw [e1, Nat.mod_add_mod]
      have : p.idxOf o + 1 + (p.length - 1) = p.idxOf o + p.length := by omega
      rw [this, Nat.add_mod_right, Nat.mod_eq_of_lt lo]
    show p[(p.idxOf e + (p.length - 1)) % p.length]? = some o
    rw [e2, List.getElem?_eq_getElem lo, List.getElem_idxOf lo]
theorem slidw_flat (n : Nat) (e o : Int) (w : List Int) : (low (flat (sub (slidw n e o)) w)).length ≤ 2 * w.length := by
  have := FG.low_length (flat (sub (slidw n e o)) w)
  have := flat_len (sub_len (slidw_len n e o)) w
  omega
/-- the rims led and sorted -/
theorem led_sorted {C : Addr} {n : Nat} {p q : List Int} {tw : T} {ws : List (List Int)} {m : Nat} (hp : Plate n p) (hq : Plate n q) (hs : p.length ≤ 900) (ht : RowW tw ws) (hwl : ws.length = n) (hm : m ≤ 400) (hws : ∀ w ∈ ws, Lets n w ∧ w.length ≤ m) (hlen : m * p.length ≤ 900) (pr : ((FG.rims p).map fun r => ring (hom ws r)).Perm (FG.rims q))
    {f : Nat → Option Cell} {e : Option Src} {i j : Nat} (hi : i < 25 ∧ i ≠ 14) (hj : j < 25 ∧ j ≠ 14) {ki kj : Kd} (fi : f i = some ⟨ki, wT p⟩) (fj : f j = some ⟨kj, tw⟩) (hkj : nk (vk kj) tw = ⟨.shr, tw⟩) :
    xCall gSortT (aCons (xLc (iSeqO (xCall (gArity 1 (g__law_rims C)) (aCons (xName i) aNil))) (gN 14) bYes (xCall (gArity 1 (g__law_ring C)) (aCons (xCall (gArity 2 (g__law_led C)) (aCons (xName j) (aCons (xName 14) aNil))) aNil)) [14]) aNil) (stF f) e = some (⟨.own, rL (FG.rims q)⟩, e) := by
  have hz := sizeLine_eq
  have hR := R_law_rims (C := C) hp hs
  have hrl : (FG.rims p).length ≤ 1000 := by
    have d := FG.rows_dec hp
    have h1 := FG.rows_len d.cyc
    have h2 := d.perm.length_eq
    have h3 : (FG.rims p).length = (FG.rows p).length := by
      unfold FG.rims
      rw [(FG.perm_srt _).length_eq, List.length_map]
    omega
  have h0 : iSeqO (xCall (gArity 1 (g__law_rims C)) (aCons (xName i) aNil)) (stF f) e = some ((FG.rims p).map wT, e) := by
    rw [e_iseqO, e_call, e_acons, nmF hi.1 fi]
    simp [hR]
  have hlc : xLc (iSeqO (xCall (gArity 1 (g__law_rims C)) (aCons (xName i) aNil))) (gN 14) bYes (xCall (gArity 1 (g__law_ring C)) (aCons (xCall (gArity 2 (g__law_led C)) (aCons (xName j) (aCons (xName 14) aNil))) aNil)) [14] (stF f) e = some (⟨.own, rL ((FG.rims p).map fun r => ring (hom ws r))⟩, e) := by
    refine lc_w (E := wT) (Sx := fun w => stF (up (up f 14 none) 14 (some ⟨.shr, wT w⟩))) h0 (fun w _ => by simp) (fun w mw => ?_) (by omega)
    obtain ⟨Lw, lw⟩ := FG.rims_lets hp w mw
    have hfl : (flat (sub ws) w).length ≤ 900 := by
      have h1 := flat_len (sub_len fun v mv => (hws v mv).2) w
      have h2 : m * w.length ≤ m * p.length := Nat.mul_le_mul_left _ lw
      omega
    have hled := R_law_led (C := C) ht (w := w) (fun v mv => by have := (hws v mv).2; omega) (by rw [hwl]; exact Lw) (by omega)
    have hhl : (hom ws w).length ≤ 900 := by
      have := FG.low_length (flat (sub ws) w)
      unfold FG.hom
      omega
    have hring := R_law_ringT (C := C) (w := hom ws w) (by omega)
    have n1 : xName j (stF (up (up f 14 none) 14 (some ⟨.shr, wT w⟩))) e = some (⟨.shr, tw⟩, e) := by
      rw [nmF hj.1 (k := kj) (t := tw) (by rw [up_ne _ _ hj.2, up_ne _ _ hj.2, fj]), hkj]
    have n2 : xName 14 (stF (up (up f 14 none) 14 (some ⟨.shr, wT w⟩))) e = some (⟨.shr, wT w⟩, e) := by
      rw [nmF (f := up (up f 14 none) 14 (some ⟨.shr, wT w⟩)) (i := 14) (k := .shr) (t := wT w) (by decide) (up_same _ _ _)]
      rfl
    rw [e_call, e_acons, e_call, e_acons, n1, Option.bind_some, e_acons, n2]
    simp [hled, hring]
  have hsort : gSortT [rL ((FG.rims p).map fun r => ring (hom ws r))] = some (true, rL (FG.rims q)) := by
    rw [g_sort, sortL_eq]
    · have e2 : FG.srt (FG.rims q) = FG.rims q := FG.srt_srt _
      rw [FG.srt_perm pr, e2]
    · intro w mw
      exact FG.rims_ne hq w (pr.mem_iff.mp mw)
  rw [e_call, e_acons, hlc]
  simp [hsort]
/-- each word led: letters by themselves -/
theorem led_ones {C : Addr} {n : Nat} {ta tb : T} {as bs : List (List Int)} {v : Nat} (hb : RowW tb bs) (hbl : bs.length = n) (hbs : ∀ w ∈ bs, w.length ≤ 400) (has : ∀ w ∈ as, Lets n w ∧ w.length ≤ 400) (hal : as.length ≤ 1000) (hta : ∀ k, itO ⟨k, ta⟩ = some (as.map wT)) (out : List (List Int)) (ho : as.map (hom bs) = out)
    {f : Nat → Option Cell} {e : Option Src} {i j : Nat} (hi : i < 25) (hj : j < 25 ∧ j ≠ v) (hv : v < 25) {ki kj : Kd} (fi : f i = some ⟨ki, ta⟩) (fj : f j = some ⟨kj, tb⟩) (hki : ∃ k, nk (vk ki) ta = ⟨k, ta⟩) (hkj : nk (vk kj) tb = ⟨.shr, tb⟩) :
    xLc (iSeqO (xName i)) (gN v) bYes (xCall (gArity 2 (g__law_led C)) (aCons (xName j) (aCons (xName v) aNil))) [v] (stF f) e = some (⟨.own, rL out⟩, e) := by
  have hz := sizeLine_eq
  subst ho
  obtain ⟨k, hk⟩ := hki
  refine lc_w (E := wT) (Sx := fun w => stF (up (up f v none) v (some ⟨.shr, wT w⟩))) ?_ (fun w _ => by simp) (fun w mw => ?_) (by omega)
  · rw [e_iseqO, nmF hi fi, hk]
    simp [hta]
  · obtain ⟨Lw, lw⟩ := has w mw
    have hfl := flat_len (sub_len hbs) w
    have hled := R_law_led (C := C) hb (w := w) (fun u mu => by have := hbs u mu; omega) (by rw [hbl]; exact Lw) (by omega)
    have n1 : xName j (stF (up (up f v none) v (some ⟨.shr, wT w⟩))) e = some (⟨.shr, tb⟩, e) := by
      rw [nmF hj.1 (k := kj) (t := tb) (by rw [up_ne _ _ hj.2, up_ne _ _ hj.2, fj]), hkj]
    have n2 : xName v (stF (up (up f v none) v (some ⟨.shr, wT w⟩))) e = some (⟨.shr, wT w⟩, e) := by
      rw [nmF (f := up (up f v none) v (some ⟨.shr, wT w⟩)) (i := v) (k := .shr) (t := wT w) hv (up_same _ _ _)]
      rfl
    rw [e_call, e_acons, n1, Option.bind_some, e_acons, n2]
    simp [hled]
end DL

set_option Elab.async false
set_option linter.all false
set_option maxRecDepth 100000
set_option maxHeartbeats 2000000
namespace DL
open PySem PySem.Spec PyProof.Rows L2
open FG (sub hom Lets flat low und ring rots rmin core Plate Good slideA slideL slideB Nbr nxt slidw ones setw Sl slideS WF firsts firstsGo ren Turn)

def L0 (C : Addr) : Sx := (sSet 2 (xCallS 2 (g__law_plate C) (aCons (xName 1) (aCons (xC (.int 5)) aNil))))
def L1 (C : Addr) : Sx := (sAsg (xCall gTup (aCons (xCall gTuple (aCons (xLc (iR1 (aCons (xBin gDiv (xCall gLen (aCons (xName 2) aNil)) (xC (.int 2))) aNil)) (gN 6) bYes (xCall gTup (aCons (xBin gAdd (xName 6) (xC (.int 1))) aNil)) [6]) aNil)) (aCons (xName 2) (aCons (xCall gRepr (aCons (xName 2) aNil)) aNil)))) (gT 3 (gsCons (gN 3) (gsCons (gN 4) (gsCons (gN 5) gsNil)))))
def L2_0 (C : Addr) : Sx := (sSet 8 (xCall (gArity 1 (g__law_slides C)) (aCons (xName 4) aNil)))
def L2_1 (C : Addr) : Sx := (sIf (bVal (xBin (gEqX false) (xName 8) (xLst aNil))) sBk sNx)
def L2_2 (C : Addr) : Sx := (sAsg (xCallS 2 (g__law_of C) (aCons (xName 1) (aCons (xName 8) aNil))) (gT 2 (gsCons (gN 9) (gsCons (gN 10) gsNil))))
def L2_3 (C : Addr) : Sx := (sSet 11 (xCall (gArity 3 (g__law_slid C)) (aCons (xName 4) (aCons (xName 9) (aCons (xName 10) aNil)))))
def L2_4 (C : Addr) : Sx := (sIf (bVal (xBin (gEqX true) (xCall gRepr (aCons (xCall (gArity 3 (g_slid C)) (aCons (xName 4) (aCons (xName 9) (aCons (xName 10) aNil)))) aNil)) (xCall gRepr (aCons (xName 11) aNil)))) (sRet (xC (.bl false))) sNx)
def L2_5 (C : Addr) : Sx := (sAsg (xName 11) (gT 2 (gsCons (gN 12) (gsCons (gN 13) gsNil))))
def L2_6 (C : Addr) : Sx := (sIf (bVal (xBin (gEqX true) (xCall gSortT (aCons (xLc (iSeqO (xCall (gArity 1 (g__law_rims C)) (aCons (xName 4) aNil))) (gN 14) bYes (xCall (gArity 1 (g__law_ring C)) (aCons (xCall (gArity 2 (g__law_led C)) (aCons (xName 13) (aCons (xName 14) aNil))) aNil)) [14]) aNil)) (xCall (gArity 1 (g__law_rims C)) (aCons (xName 12) aNil)))) (sRet (xC (.bl false))) sNx)
def L2_7 (C : Addr) : Sx := (sSet 15 (xCallS 3 (g__law_drawn_ring C) (aCons (xName 1) (aCons (xName 4) (aCons (xC (.int 6)) aNil)))))
def L2_8 (C : Addr) : Sx := (sIf (bVal (xBin (gEqX true) (xCall gRepr (aCons (xCall (gArity 2 (g_letters_put C)) (aCons (xName 13) (aCons (xName 15) aNil))) aNil)) (xCall gRepr (aCons (xCall (gArity 2 (g__law_led C)) (aCons (xName 13) (aCons (xName 15) aNil))) aNil)))) (sRet (xC (.bl false))) sNx)
def L2_9 (C : Addr) : Sx := (sParN [16, 17] (aCons (xBin gSubX (xName 4) (xName 9)) (aCons (xBin gSubX (xName 4) (xBin gMod (xCall gInt1 (aCons (xBin gAdd (xName 9) (xIf (bVal (xName 10)) (xC (.int 1)) (xBin DL.gSub (xCall gLen (aCons (xName 4) aNil)) (xC (.int 1))))) aNil)) (xCall gLen (aCons (xName 4) aNil)))) aNil)))
def L2_10 (C : Addr) : Sx := (sAsg (xCall (gArity 3 (g_slid C)) (aCons (xName 12) (aCons (xBm gIdx (xName 12) (aCons (xName 16) aNil)) (aCons (xNot (xName 10)) aNil)))) (gT 2 (gsCons (gN 18) (gsCons (gN 19) gsNil))))
def L2_11 (C : Addr) : Sx := (sSet 6 (xBm gIdx (xName 18) (aCons (xBin gSubX (xName 4) (xC (.int 0))) aNil)))
def L2_12 (C : Addr) : Sx := (sIf (bVal (xBin (gEqX true) (xBin gAdd (xSl gSl (xName 18) (oSome (xName 6)) oNone) (xSl gSl (xName 18) oNone (oSome (xName 6)))) (xName 4))) (sRet (xC (.bl false))) sNx)
def L2_13 (C : Addr) : Sx := (sIf (bVal (xBin (gEqX true) (xLc (iSeqO (xName 13)) (gN 20) bYes (xCall (gArity 2 (g__law_led C)) (aCons (xName 19) (aCons (xName 20) aNil))) [20]) (xLc (iR1 (aCons (xCall gLen (aCons (xName 13) aNil)) aNil)) (gN 21) bYes (xCall gTup (aCons (xBin gAdd (xName 21) (xC (.int 1))) aNil)) [21]))) (sRet (xC (.bl false))) sNx)
def L2_14 (C : Addr) : Sx := (sAsg (xCall gTup (aCons (xCall gTuple (aCons (xLc (iSeqO (xName 3)) (gN 20) bYes (xCall (gArity 2 (g__law_led C)) (aCons (xName 13) (aCons (xName 20) aNil))) [20]) aNil)) (aCons (xName 12) aNil))) (gT 2 (gsCons (gN 3) (gsCons (gN 4) gsNil))))
def allL2_ (C : Addr) : Sx := sSeq (L2_0 C) (sSeq (L2_1 C) (sSeq (L2_2 C) (sSeq (L2_3 C) (sSeq (L2_4 C) (sSeq (L2_5 C) (sSeq (L2_6 C) (sSeq (L2_7 C) (sSeq (L2_8 C) (sSeq (L2_9 C) (sSeq (L2_10 C) (sSeq (L2_11 C) (sSeq (L2_12 C) (sSeq (L2_13 C) (L2_14 C))))))))))))))
def L2 (C : Addr) : Sx := (sFor (iR1 (aCons (xC (.int 4)) aNil)) (gN 7) (allL2_ C))
def L3 (C : Addr) : Sx := (sIf (bVal (xBin (gEqX true) (xCall gSortT (aCons (xLc (iSeqO (xCall (gArity 1 (g__law_rims C)) (aCons (xName 2) aNil))) (gN 14) bYes (xCall (gArity 1 (g__law_ring C)) (aCons (xCall (gArity 2 (g__law_led C)) (aCons (xName 3) (aCons (xName 14) aNil))) aNil)) [14]) aNil)) (xCall (gArity 1 (g__law_rims C)) (aCons (xName 4) aNil)))) (sRet (xC (.bl false))) sNx)
def L4_0 (C : Addr) : Sx := (sAsg (xCall (gArity 1 (g_told_plate C)) (aCons (xName 20) aNil)) (gT 3 (gsCons (gN 22) (gsCons (gN 23) (gsCons (gN 24) gsNil)))))
def L4_1 (C : Addr) : Sx := (sIf (bOr (bVal (xBin (gEqX true) (xCall gRepr (aCons (xName 22) aNil)) (xCall gRepr (aCons (xCall (gArity 1 (g__law_type_plate C)) (aCons (xName 20) aNil)) aNil)))) (bVal (xBin (gEqX true) (xLst (aCons (xCall gLen (aCons (xName 23) aNil)) (aCons (xCall gLen (aCons (xName 24) aNil)) aNil))) (xBin gMul (xLst (aCons (xBin gDiv (xCall gLen (aCons (xName 20) aNil)) (xC (.int 2))) aNil)) (xC (.int 2)))))) (sRet (xC (.bl false))) sNx)
def L4_2 (C : Addr) : Sx := (sIf (bVal (xBin (gEqX true) (xLc (iSeqO (xName 23)) (gN 15) bYes (xCall (gArity 2 (g__law_led C)) (aCons (xName 24) (aCons (xName 15) aNil))) [15]) (xLc (iR1 (aCons (xBin gDiv (xCall gLen (aCons (xName 20) aNil)) (xC (.int 2))) aNil)) (gN 6) bYes (xCall gTup (aCons (xBin gAdd (xName 6) (xC (.int 1))) aNil)) [6]))) (sRet (xC (.bl false))) sNx)
def L4_3 (C : Addr) : Sx := (sIf (bVal (xBin (gEqX true) (xLc (iSeqO (xName 24)) (gN 15) bYes (xCall (gArity 2 (g__law_led C)) (aCons (xName 23) (aCons (xName 15) aNil))) [15]) (xLc (iR1 (aCons (xBin gDiv (xCall gLen (aCons (xName 20) aNil)) (xC (.int 2))) aNil)) (gN 6) bYes (xCall gTup (aCons (xBin gAdd (xName 6) (xC (.int 1))) aNil)) [6]))) (sRet (xC (.bl false))) sNx)
def L4_4 (C : Addr) : Sx := (sIf (bVal (xBin (gEqX true) (xCall gSortT (aCons (xLc (iSeqO (xCall (gArity 1 (g__law_rims C)) (aCons (xName 20) aNil))) (gN 14) bYes (xCall (gArity 1 (g__law_ring C)) (aCons (xCall (gArity 2 (g__law_led C)) (aCons (xName 23) (aCons (xName 14) aNil))) aNil)) [14]) aNil)) (xCall (gArity 1 (g__law_rims C)) (aCons (xName 22) aNil)))) (sRet (xC (.bl false))) sNx)
def allL4_ (C : Addr) : Sx := sSeq (L4_0 C) (sSeq (L4_1 C) (sSeq (L4_2 C) (sSeq (L4_3 C) (L4_4 C))))
def L4 (C : Addr) : Sx := (sFor (iSeq (xCall gTup (aCons (xName 2) (aCons (xName 4) aNil)))) (gN 20) (allL4_ C))
def L5 (C : Addr) : Sx := (sRet (xBin (gEqX false) (xCall gRepr (aCons (xName 2) aNil)) (xName 5)))
def allL (C : Addr) : Sx := sSeq (L0 C) (sSeq (L1 C) (sSeq (L2 C) (sSeq (L3 C) (sSeq (L4 C) (L5 C)))))
theorem bl_eq (C : Addr) : bl C = allL C := rfl
@[simp] theorem stF_getl (f : Nat → Option Cell) (i : Nat) (h : i < 25) : (stF f)[i]? = some (f i) := stF_get f h
@[simp] theorem stF_gete (f : Nat → Option Cell) (i : Nat) (h : i < (stF f).length) : (stF f)[i] = f i := by simp [stF]
section
variable {C : Addr} {n : Nat} {f : Nat → Option Cell} {e0 : Option Src} {s : Src} {here : List Int} {i : Nat} {b : Bool} {e o : Int}
theorem t0 (hs : here.length ≤ 900) (h4 : f 4 = some ⟨.shr, wT here⟩) : ∃ L, Ok here L ∧ L.length ≤ 2000 ∧ L2_0 C (stF f) e0 = some (.nx, stF (up f 8 (some ⟨.own, lP L⟩)), e0) := by
  obtain ⟨L, ok, hl, h⟩ := R_law_slides (C := C) hs
  refine ⟨L, ok, hl, ?_⟩
  have a1 : aCons (xName 4) aNil (stF f) e0 = some ([⟨.shr, wT here⟩], e0) := by simp [h4]
  have a2 : gArity 1 (g__law_slides C) (ts [⟨.shr, wT here⟩]) = some (true, lP L) := by
    rw [ts_cons, ts_nil, ar1]
    exact h
  unfold L2_0
  rw [e_set, e_call, a1, Option.bind_some, a2, Option.bind_some, Option.bind_some]
  rfl
theorem t1 {L : List (Int × Bool)} (h8 : f 8 = some ⟨.own, lP L⟩) : L2_1 C (stF f) e0 = some (if L = [] then .bk else .nx, stF f, e0) := by
  unfold L2_1
  by_cases hL : L = []
  · subst hL; simp [h8]
  · simp [h8, hL]
theorem t2 {L : List (Int × Bool)} (ok : Ok here L) (hl : L.length ≤ 2000) (h8 : f 8 = some ⟨.own, lP L⟩) (h1 : f 1 = some ⟨.shr, .src⟩) (hL : L ≠ []) (hs : Sk s) : ∃ (i : Nat) (b : Bool) (e o : Int) (s' : Src), At here i b e o ∧ o ≠ -e ∧ Sk s' ∧ L2_2 C (stF f) (some s) = some (.nx, stF (up (up f 9 (some ⟨.shr, .int (i : Nat)⟩)) 10 (some ⟨.shr, .bl b⟩)), some s') := by
  have hpos : 0 < L.length := List.length_pos_iff.mpr hL
  obtain ⟨k, s', k1, k2, ss, hof⟩ := R_law_of (C := C) (t := lP L) (n := L.length) rfl (g_len_lP L) (by omega) hs
  have hk : k.toNat < L.length := by omega
  have hat : atI L k = some L[k.toNat] := by
    have h0 := atI_nat (xs := L) (j := k.toNat) (v := L[k.toNat]) (List.getElem?_eq_getElem hk)
    rw [Int.toNat_of_nonneg k1] at h0
    exact h0
  have h3 := hof (prT L[k.toNat]) (by rw [g_sub_lP, hat]; rfl) rfl
  obtain ⟨i, e, o, hi, hA, hne⟩ := ok _ (List.getElem_mem hk)
  refine ⟨i, L[k.toNat].2, e, o, s', hA, hne, ss, ?_⟩
  have ez : prT L[k.toNat] = .tup [.int (i : Nat), .bl L[k.toNat].2] := by
    unfold prT
    rw [hi]
  rw [ez] at h3
  unfold L2_2
  simp [h8, h1, h3]
theorem t3 (hp : Plate n here) (hs : here.length ≤ 900) (hA : At here i b e o) (h4 : f 4 = some ⟨.shr, wT here⟩) (h9 : f 9 = some ⟨.shr, .int (i : Nat)⟩) (h10 : f 10 = some ⟨.shr, .bl b⟩) : L2_3 C (stF f) e0 = some (.nx, stF (up f 11 (some ⟨.shr, .tup [wT (slideA b e o here), rT (slidw n e o)]⟩)), e0) := by
  have h := R_law_slid (C := C) hp hs hA
  unfold L2_3
  simp [h4, h9, h10, h]
theorem t4 (hn : n ≤ 5) (hp : Plate n here) (hA : At here i b e o) (hne : o ≠ -e) (h4 : f 4 = some ⟨.shr, wT here⟩) (h9 : f 9 = some ⟨.shr, .int (i : Nat)⟩) (h10 : f 10 = some ⟨.shr, .bl b⟩) (h11 : f 11 = some ⟨.shr, .tup [wT (slideA b e o here), rT (slidw n e o)]⟩) : L2_4 C (stF f) e0 = some (.nx, stF f, e0) := by
  have hl := hp.length
  have h := R_slid (C := C) hp (by omega) hA hne
  obtain ⟨me, mo⟩ := (hA.nbr hp).mem hp
  have eL := (hp.mem e).mp me
  have oL := (hp.mem o).mp mo
  obtain ⟨pl, _⟩ := FG.slide_rims hp (hA.nbr hp) hne
  have pll := pl.length
  obtain ⟨x, hx⟩ := repr_pair (n := n) (w := slideA b e o here) (ws := slidw n e o) hn (fun x mx => (pl.mem x).mp mx) (by omega) (fun v mv => ⟨FG.slidw_lets eL oL v mv, slidw_len n e o v mv⟩) (by rw [FG.slidw_length]; exact hn)
  unfold L2_4
  simp [h4, h9, h10, h11, h, hx]
theorem t5 {late : List Int} {told : List (List Int)} (h11 : f 11 = some ⟨.shr, .tup [wT late, rT told]⟩) : L2_5 C (stF f) e0 = some (.nx, stF (up (up f 12 (some ⟨.shr, wT late⟩)) 13 (some ⟨.shr, rT told⟩)), e0) := by
  unfold L2_5
  simp [h11]
theorem t6 (hn : n ≤ 5) (hp : Plate n here) (hA : At here i b e o) (hne : o ≠ -e) (h4 : f 4 = some ⟨.shr, wT here⟩) (h12 : f 12 = some ⟨.shr, wT (slideA b e o here)⟩) (h13 : f 13 = some ⟨.shr, rT (slidw n e o)⟩) : L2_6 C (stF f) e0 = some (.nx, stF f, e0) := by
  have hl := hp.length
  obtain ⟨me, mo⟩ := (hA.nbr hp).mem hp
  have eL := (hp.mem e).mp me
  have oL := (hp.mem o).mp mo
  obtain ⟨pl, pr⟩ := FG.slide_rims hp (hA.nbr hp) hne
  have pll := pl.length
  have h := led_sorted (C := C) (m := 2) hp pl (by omega) (row_rT (slidw n e o)) (FG.slidw_length n e o) (by omega) (fun v mv => ⟨FG.slidw_lets eL oL v mv, slidw_len n e o v mv⟩) (by omega) pr (f := f) (e := e0) (i := 4) (j := 13) ⟨by decide, by decide⟩ ⟨by decide, by decide⟩ h4 h13 rfl
  have hR := R_law_rims (C := C) pl (by omega)
  unfold L2_6
  rw [e_if, e_bval, e_bin, h]
  simp [h12, hR]
theorem t7 (hn : 1 ≤ n ∧ n ≤ 5) (hp : Plate n here) (h1 : f 1 = some ⟨.shr, .src⟩) (h4 : f 4 = some ⟨.shr, wT here⟩) (hs : Sk s) : ∃ w s', Lets n w ∧ w.length ≤ 6 ∧ Sk s' ∧ L2_7 C (stF f) (some s) = some (.nx, stF (up f 15 (some ⟨.shr, wT (ring w)⟩)), some s') := by
  obtain ⟨w, s', a, b, c, d⟩ := R_drawn (C := C) (m := 6) hp (by omega) (by omega) hs
  refine ⟨w, s', a, b, c, ?_⟩
  have d : g__law_drawn_ring C [.src, wT here, .int 6] s = some (true, wT (ring w), s') := d
  unfold L2_7
  simp [h1, h4, d]
theorem ring_len (w : List Int) : (ring w).length ≤ w.length := by
  unfold FG.ring
  rw [(FG.rmin_perm _).length_eq]
  obtain ⟨u, hu⟩ := FG.core_spec _ (low w) (Nat.le_refl _)
  have := congrArg List.length hu
  simp only [List.length_append] at this
  have := FG.low_length w
  omega
theorem t8 {w : List Int} (hn : n ≤ 5) (hp : Plate n here) (me : e ∈ here) (mo : o ∈ here) (hw : Lets n w) (hl : w.length ≤ 6) (h13 : f 13 = some ⟨.shr, rT (slidw n e o)⟩) (h15 : f 15 = some ⟨.shr, wT (ring w)⟩) : L2_8 C (stF f) e0 = some (.nx, stF f, e0) := by
  have hz := sizeLine_eq
  have eL := (hp.mem e).mp me
  have oL := (hp.mem o).mp mo
  have rl := ring_len w
  have Lr : Lets n (ring w) := fun x mx => hw x (FG.mem_ring mx)
  have fl := flat_len (sub_len (slidw_len n e o)) (ring w)
  have hl2 := slidw_flat n e o (ring w)
  have hput := R_letters_put (C := C) (row_rT (slidw n e o)) (w := ring w) (fun v mv => by have := slidw_len n e o v mv; omega) (by rw [FG.slidw_length]; exact Lr) (by omega) (by unfold FG.hom; omega)
  have hled := R_law_led (C := C) (row_rT (slidw n e o)) (w := ring w) (fun v mv => by have := slidw_len n e o v mv; omega) (by rw [FG.slidw_length]; exact Lr) (by omega)
  obtain ⟨x, hx⟩ := repr_w (n := n) (w := hom (slidw n e o) (ring w)) hn (FG.hom_lets (FG.slidw_lets eL oL) _) (by unfold FG.hom; omega)
  unfold L2_8
  simp [h13, h15, hput, hled, hx]
theorem t9 (hA : At here i b e o) (h4 : f 4 = some ⟨.shr, wT here⟩) (h9 : f 9 = some ⟨.shr, .int (i : Nat)⟩) (h10 : f 10 = some ⟨.shr, .bl b⟩) : L2_9 C (stF f) e0 = some (.nx, stF (up (up f 16 (some ⟨.shr, .int e⟩)) 17 (some ⟨.shr, .int o⟩)), e0) := by
  have hpos : (0 : Int) < (here.length : Int) := by have := hA.lt; omega
  have i3 := hA.i3
  unfold L2_9
  cases b with
  | true =>
    simp only [if_true] at i3
    simp [h4, h9, h10, hA.i1, i3, g_mod hpos]
  | false =>
    simp only [Bool.false_eq_true, if_false] at i3
    simp [h4, h9, h10, hA.i1, i3, g_mod hpos]
theorem t10 (hn : n ≤ 5) (hp : Plate n here) (hA : At here i b e o) (hne : o ≠ -e) (h10 : f 10 = some ⟨.shr, .bl b⟩) (h12 : f 12 = some ⟨.shr, wT (slideA b e o here)⟩) (h16 : f 16 = some ⟨.shr, .int e⟩) : L2_10 C (stF f) e0 = some (.nx, stF (up (up f 18 (some ⟨.shr, wT (slideA (!b) e (-o) (slideA b e o here))⟩)) 19 (some ⟨.shr, rT (slidw n e (-o))⟩)), e0) := by
  obtain ⟨pl, _⟩ := FG.slide_rims hp (hA.nbr hp) hne
  have pll := pl.length
  obtain ⟨nb, _⟩ := FG.slide_back hp (hA.nbr hp) hne
  have hA2 := At.of_nbr pl nb
  have hoe := (hA.nbr hp).ne hp
  have h := R_slid (C := C) pl (by omega) hA2 (by omega)
  have mem : e ∈ slideA b e o here := (nb.mem pl).1
  unfold L2_10
  have hnot : xNot (xName 10) (stF f) e0 = some (⟨.shr, .bl (!b)⟩, e0) := by
    unfold xNot
    rw [nmF (i := 10) (by decide) h10]
    rfl
  simp [h12, h16, mem, hnot, h]
theorem t11 {k : Int} {bk : List Int} (hh : atI here 0 = some k) (hm : k ∈ bk) (h4 : f 4 = some ⟨.shr, wT here⟩) (h18 : f 18 = some ⟨.shr, wT bk⟩) : L2_11 C (stF f) e0 = some (.nx, stF (up f 6 (some ⟨.shr, .int (bk.idxOf k : Nat)⟩)), e0) := by
  unfold L2_11
  simp [h4, h18, hh, hm]
theorem t12 {k : Nat} {bk : List Int} (hl : bk.length ≤ 1000) (hr : bk.drop k ++ bk.take k = here) (h4 : f 4 = some ⟨.shr, wT here⟩) (h18 : f 18 = some ⟨.shr, wT bk⟩) (h6 : f 6 = some ⟨.shr, .int (k : Nat)⟩) : L2_12 C (stF f) e0 = some (.nx, stF f, e0) := by
  have hadd : gAdd (wT (bk.drop k)) (wT (bk.take k)) = some (true, wT here) := by
    rw [g_add_wT (by rw [List.length_drop, List.length_take, sizeLine_eq]; omega), hr]
  unfold L2_12
  simp [h4, h18, h6, cut_from', cut_to', hadd]
theorem ones_F {a : Ax} {v : Nat} {k : Kd} {j : Int} (hn : n ≤ 1000) (hv : v < 25) (ha : a (stF f) e0 = some ([⟨k, .int j⟩], e0)) (hj : j = n) : xLc (iR1 a) (gN v) bYes (xCall gTup (aCons (xBin gAdd (xName v) (xC (.int 1))) aNil)) [v] (stF f) e0 = some (⟨.own, rL (ones n)⟩, e0) :=
  ones_lc (i := 0) ha hj (by omega) (by simp [hv]) (by rw [sizeLine_eq]; omega)
theorem t13 (hn : n ≤ 5) (eL : e ≠ 0 ∧ -(n : Int) ≤ e ∧ e ≤ n) (oL : o ≠ 0 ∧ -(n : Int) ≤ o ∧ o ≤ n) (hoe : o ≠ e) (hne : o ≠ -e) (h13 : f 13 = some ⟨.shr, rT (slidw n e o)⟩) (h19 : f 19 = some ⟨.shr, rT (slidw n e (-o))⟩) : L2_13 C (stF f) e0 = some (.nx, stF f, e0) := by
  have h := led_ones (C := C) (n := n) (row_rT (slidw n e (-o))) (FG.slidw_length _ _ _) (fun v mv => by have := slidw_len n e (-o) v mv; omega) (as := slidw n e o) (fun v mv => ⟨FG.slidw_lets eL oL v mv, by have := slidw_len n e o v mv; omega⟩) (by rw [FG.slidw_length]; omega) (fun k => itO_rT k _) (ones n) (FG.slid_undone eL oL hoe hne) (f := f) (e := e0) (i := 13) (j := 19) (v := 20) (by decide) ⟨by decide, by decide⟩ (by decide) h13 h19 ⟨_, rfl⟩ rfl
  have h2 := ones_F (n := n) (f := f) (e0 := e0) (a := aCons (xCall gLen (aCons (xName 13) aNil)) aNil) (v := 21) (k := .shr) (j := ((slidw n e o).length : Int)) (by omega) (by decide) (by simp [h13]) (by rw [FG.slidw_length])
  unfold L2_13
  rw [e_if, e_bval, e_bin, h, Option.bind_some, h2]
  simp
theorem t14 {ws : List (List Int)} {late : List Int} (hn : n ≤ 5) (eL : e ≠ 0 ∧ -(n : Int) ≤ e ∧ e ≤ n) (oL : o ≠ 0 ∧ -(n : Int) ≤ o ∧ o ≤ n) (hws : ∀ w ∈ ws, Lets n w ∧ w.length ≤ 400) (hwl : ws.length = n) (h3 : f 3 = some ⟨.shr, rT ws⟩) (h12 : f 12 = some ⟨.shr, wT late⟩) (h13 : f 13 = some ⟨.shr, rT (slidw n e o)⟩) : L2_14 C (stF f) e0 = some (.nx, stF (up (up f 3 (some ⟨.shr, rT (ws.map (hom (slidw n e o)))⟩)) 4 (some ⟨.shr, wT late⟩)), e0) := by
  have h := led_ones (C := C) (n := n) (row_rT (slidw n e o)) (FG.slidw_length _ _ _) (fun v mv => by have := slidw_len n e o v mv; omega) (as := ws) hws (by omega) (fun k => itO_rT k _) _ rfl (f := f) (e := e0) (i := 3) (j := 13) (v := 20) (by decide) ⟨by decide, by decide⟩ (by decide) h3 h13 ⟨_, rfl⟩ rfl
  have ht := tupN (us := [rT (ws.map (hom (slidw n e o))), wT late]) rfl (by simp)
  unfold L2_14
  rw [e_asg, e_call, e_acons, e_call, e_acons, h]
  simp [h12, ht]
end
end DL

set_option Elab.async false
set_option linter.all false
set_option maxRecDepth 100000
set_option maxHeartbeats 2000000
namespace DL
open PySem PySem.Spec PyProof.Rows L2
open FG (sub hom Lets flat low und ring rots rmin core Plate Good slideA slideL slideB Nbr nxt slidw ones setw Sl slideS WF firsts firstsGo ren Turn)

/-- what the law's slots hold -/
structure Lw (p0 : List Int) (ws : List (List Int)) (here : List Int) (kept : Str) (f : Nat → Option Cell) : Prop where
  f1 : f 1 = some ⟨.shr, .src⟩
  f2 : f 2 = some ⟨.shr, wT p0⟩
  f3 : f 3 = some ⟨.shr, rT ws⟩
  f4 : f 4 = some ⟨.shr, wT here⟩
  f5 : f 5 = some ⟨.shr, .str kept⟩
theorem Lw.up {p0 : List Int} {ws : List (List Int)} {here : List Int} {kept : Str} {f : Nat → Option Cell} (h : Lw p0 ws here kept f) {i : Nat} (hi : 5 < i) (c : Option Cell) : Lw p0 ws here kept (DL.up f i c) := by
  refine ⟨?_, ?_, ?_, ?_, ?_⟩
  · rw [up_ne _ _ (by omega)]; exact h.f1
  · rw [up_ne _ _ (by omega)]; exact h.f2
  · rw [up_ne _ _ (by omega)]; exact h.f3
  · rw [up_ne _ _ (by omega)]; exact h.f4
  · rw [up_ne _ _ (by omega)]; exact h.f5
theorem pow_le {t : Nat} (h : t ≤ 4) : 2 ^ t ≤ 16 := by
  have : t = 0 ∨ t = 1 ∨ t = 2 ∨ t = 3 ∨ t = 4 := by omega
  rcases this with rfl | rfl | rfl | rfl | rfl <;> decide
theorem turn_run {C : Addr} {n t : Nat} {p0 here : List Int} {ws : List (List Int)} {kept : Str} {f : Nat → Option Cell} {s : Src} (hn : 1 ≤ n ∧ n ≤ 5) (hp0 : Plate n p0) (ht : t ≤ 3) (T : Turn n p0 t ws here) (h : Lw p0 ws here kept f) (hs : Sk s) :
    ∃ fl f' s' t' ws' here', (fl = .bk ∨ fl = .nx) ∧ t' ≤ t + 1 ∧ Turn n p0 t' ws' here' ∧ Lw p0 ws' here' kept f' ∧ Sk s' ∧ allL2_ C (stF f) (some s) = some (fl, stF f', some s') := by
  have hl := T.pl.length
  obtain ⟨L, ok, Ll, q0⟩ := t0 (C := C) (e0 := some s) (by omega) h.f4
  have a0 : DL.up f 8 (some ⟨.own, lP L⟩) 8 = some ⟨.own, lP L⟩ := up_same _ _ _
  have w0 := h.up (i := 8) (by omega) (some ⟨.own, lP L⟩)
  generalize DL.up f 8 (some ⟨.own, lP L⟩) = f0 at q0 a0 w0
  have q1 := t1 (C := C) (e0 := some s) a0
  unfold allL2_
  rw [e_seq, q0, Option.bind_some]
  dsimp only
  rw [e_seq, q1, Option.bind_some]
  by_cases hL : L = []
  · rw [if_pos hL]
    exact ⟨.bk, f0, s, t, ws, here, .inl rfl, by omega, T, w0, hs, rfl⟩
  · rw [if_neg hL]
    dsimp only
    obtain ⟨i, b, e, o, s1, hA, hne, ss1, q2⟩ := t2 (C := C) ok Ll a0 w0.f1 hL hs
    have hN := hA.nbr T.pl
    obtain ⟨me, mo⟩ := hN.mem T.pl
    have eL := (T.pl.mem e).mp me
    have oL := (T.pl.mem o).mp mo
    have hoe := hN.ne T.pl
    obtain ⟨pl, _⟩ := FG.slide_rims T.pl hN hne
    have pll := pl.length
    rw [e_seq, q2, Option.bind_some]
    dsimp only
    have b9 : DL.up (DL.up f0 9 (some ⟨.shr, .int (i : Nat)⟩)) 10 (some ⟨.shr, .bl b⟩) 9 = some ⟨.shr, .int (i : Nat)⟩ := by simp [DL.up]
    have b10 : DL.up (DL.up f0 9 (some ⟨.shr, .int (i : Nat)⟩)) 10 (some ⟨.shr, .bl b⟩) 10 = some ⟨.shr, .bl b⟩ := by simp [DL.up]
    have w1 := (w0.up (i := 9) (by omega) (some ⟨.shr, .int (i : Nat)⟩)).up (i := 10) (by omega) (some ⟨.shr, .bl b⟩)
    generalize DL.up (DL.up f0 9 (some ⟨.shr, .int (i : Nat)⟩)) 10 (some ⟨.shr, .bl b⟩) = f1 at b9 b10 w1
    have q3 := t3 (C := C) (e0 := some s1) T.pl (by omega) hA w1.f4 b9 b10
    rw [e_seq, q3, Option.bind_some]
    dsimp only
    have c11 : DL.up f1 11 (some ⟨.shr, .tup [wT (slideA b e o here), rT (slidw n e o)]⟩) 11 = some ⟨.shr, .tup [wT (slideA b e o here), rT (slidw n e o)]⟩ := up_same _ _ _
    have c9 : DL.up f1 11 (some ⟨.shr, .tup [wT (slideA b e o here), rT (slidw n e o)]⟩) 9 = some ⟨.shr, .int (i : Nat)⟩ := by simp [DL.up, b9]
    have c10 : DL.up f1 11 (some ⟨.shr, .tup [wT (slideA b e o here), rT (slidw n e o)]⟩) 10 = some ⟨.shr, .bl b⟩ := by simp [DL.up, b10]
    have w2 := w1.up (i := 11) (by omega) (some ⟨.shr, .tup [wT (slideA b e o here), rT (slidw n e o)]⟩)
    generalize DL.up f1 11 (some ⟨.shr, .tup [wT (slideA b e o here), rT (slidw n e o)]⟩) = f2 at c11 c9 c10 w2
    have q4 := t4 (C := C) (e0 := some s1) hn.2 T.pl hA hne w2.f4 c9 c10 c11
    have q5 := t5 (C := C) (e0 := some s1) c11
    rw [e_seq, q4, Option.bind_some]
    dsimp only
    rw [e_seq, q5, Option.bind_some]
    dsimp only
    have d12 : DL.up (DL.up f2 12 (some ⟨.shr, wT (slideA b e o here)⟩)) 13 (some ⟨.shr, rT (slidw n e o)⟩) 12 = some ⟨.shr, wT (slideA b e o here)⟩ := by simp [DL.up]
    have d13 : DL.up (DL.up f2 12 (some ⟨.shr, wT (slideA b e o here)⟩)) 13 (some ⟨.shr, rT (slidw n e o)⟩) 13 = some ⟨.shr, rT (slidw n e o)⟩ := by simp [DL.up]
    have d9 : DL.up (DL.up f2 12 (some ⟨.shr, wT (slideA b e o here)⟩)) 13 (some ⟨.shr, rT (slidw n e o)⟩) 9 = some ⟨.shr, .int (i : Nat)⟩ := by simp [DL.up, c9]
    have d10 : DL.up (DL.up f2 12 (some ⟨.shr, wT (slideA b e o here)⟩)) 13 (some ⟨.shr, rT (slidw n e o)⟩) 10 = some ⟨.shr, .bl b⟩ := by simp [DL.up, c10]
    have w3 := (w2.up (i := 12) (by omega) (some ⟨.shr, wT (slideA b e o here)⟩)).up (i := 13) (by omega) (some ⟨.shr, rT (slidw n e o)⟩)
    generalize DL.up (DL.up f2 12 (some ⟨.shr, wT (slideA b e o here)⟩)) 13 (some ⟨.shr, rT (slidw n e o)⟩) = f3 at d12 d13 d9 d10 w3
    have q6 := t6 (C := C) (e0 := some s1) hn.2 T.pl hA hne w3.f4 d12 d13
    rw [e_seq, q6, Option.bind_some]
    dsimp only
    obtain ⟨w, s2, Lw', wl, ss2, q7⟩ := t7 (C := C) hn T.pl w3.f1 w3.f4 ss1
    rw [e_seq, q7, Option.bind_some]
    dsimp only
    have g15 : DL.up f3 15 (some ⟨.shr, wT (ring w)⟩) 15 = some ⟨.shr, wT (ring w)⟩ := up_same _ _ _
    have g12 : DL.up f3 15 (some ⟨.shr, wT (ring w)⟩) 12 = some ⟨.shr, wT (slideA b e o here)⟩ := by simp [DL.up, d12]
    have g13 : DL.up f3 15 (some ⟨.shr, wT (ring w)⟩) 13 = some ⟨.shr, rT (slidw n e o)⟩ := by simp [DL.up, d13]
    have g9 : DL.up f3 15 (some ⟨.shr, wT (ring w)⟩) 9 = some ⟨.shr, .int (i : Nat)⟩ := by simp [DL.up, d9]
    have g10 : DL.up f3 15 (some ⟨.shr, wT (ring w)⟩) 10 = some ⟨.shr, .bl b⟩ := by simp [DL.up, d10]
    have w4 := w3.up (i := 15) (by omega) (some ⟨.shr, wT (ring w)⟩)
    generalize DL.up f3 15 (some ⟨.shr, wT (ring w)⟩) = f4 at g15 g12 g13 g9 g10 w4
    have q8 := t8 (C := C) (e0 := some s2) hn.2 T.pl me mo Lw' wl g13 g15
    have q9 := t9 (C := C) (e0 := some s2) hA w4.f4 g9 g10
    rw [e_seq, q8, Option.bind_some]
    dsimp only
    rw [e_seq, q9, Option.bind_some]
    dsimp only
    have k16 : DL.up (DL.up f4 16 (some ⟨.shr, .int e⟩)) 17 (some ⟨.shr, .int o⟩) 16 = some ⟨.shr, .int e⟩ := by simp [DL.up]
    have k12 : DL.up (DL.up f4 16 (some ⟨.shr, .int e⟩)) 17 (some ⟨.shr, .int o⟩) 12 = some ⟨.shr, wT (slideA b e o here)⟩ := by simp [DL.up, g12]
    have k13 : DL.up (DL.up f4 16 (some ⟨.shr, .int e⟩)) 17 (some ⟨.shr, .int o⟩) 13 = some ⟨.shr, rT (slidw n e o)⟩ := by simp [DL.up, g13]
    have k10 : DL.up (DL.up f4 16 (some ⟨.shr, .int e⟩)) 17 (some ⟨.shr, .int o⟩) 10 = some ⟨.shr, .bl b⟩ := by simp [DL.up, g10]
    have w5 := (w4.up (i := 16) (by omega) (some ⟨.shr, .int e⟩)).up (i := 17) (by omega) (some ⟨.shr, .int o⟩)
    generalize DL.up (DL.up f4 16 (some ⟨.shr, .int e⟩)) 17 (some ⟨.shr, .int o⟩) = f5 at k16 k12 k13 k10 w5
    have q10 := t10 (C := C) (e0 := some s2) hn.2 T.pl hA hne k10 k12 k16
    rw [e_seq, q10, Option.bind_some]
    dsimp only
    obtain ⟨_, x, y, ebk, ehr⟩ := FG.slide_back T.pl hN hne
    have m18 : DL.up (DL.up f5 18 (some ⟨.shr, wT (slideA (!b) e (-o) (slideA b e o here))⟩)) 19 (some ⟨.shr, rT (slidw n e (-o))⟩) 18 = some ⟨.shr, wT (slideA (!b) e (-o) (slideA b e o here))⟩ := by simp [DL.up]
    have m19 : DL.up (DL.up f5 18 (some ⟨.shr, wT (slideA (!b) e (-o) (slideA b e o here))⟩)) 19 (some ⟨.shr, rT (slidw n e (-o))⟩) 19 = some ⟨.shr, rT (slidw n e (-o))⟩ := by simp [DL.up]
    have m12 : DL.up (DL.up f5 18 (some ⟨.shr, wT (slideA (!b) e (-o) (slideA b e o here))⟩)) 19 (some ⟨.shr, rT (slidw n e (-o))⟩) 12 = some ⟨.shr, wT (slideA b e o here)⟩ := by simp [DL.up, k12]
    have m13 : DL.up (DL.up f5 18 (some ⟨.shr, wT (slideA (!b) e (-o) (slideA b e o here))⟩)) 19 (some ⟨.shr, rT (slidw n e (-o))⟩) 13 = some ⟨.shr, rT (slidw n e o)⟩ := by simp [DL.up, k13]
    have w6 := (w5.up (i := 18) (by omega) (some ⟨.shr, wT (slideA (!b) e (-o) (slideA b e o here))⟩)).up (i := 19) (by omega) (some ⟨.shr, rT (slidw n e (-o))⟩)
    generalize DL.up (DL.up f5 18 (some ⟨.shr, wT (slideA (!b) e (-o) (slideA b e o here))⟩)) 19 (some ⟨.shr, rT (slidw n e (-o))⟩) = f6 at m18 m19 m12 m13 w6
    -- the way back
    rw [ebk] at m18
    have nd : (x ++ y).Nodup := by
      have : (y ++ x).Nodup := by rw [← ehr]; exact T.pl.nd
      exact List.perm_append_comm.nodup this
    obtain ⟨k, hk⟩ : ∃ k, here.head? = some k := by
      cases hh : here with
      | nil => rw [hh] at hl; simp at hl; omega
      | cons k r => exact ⟨k, rfl⟩
    have hk0 : atI here 0 = some k := by
      cases hh : here with
      | nil => rw [hh] at hk; cases hk
      | cons k' r =>
        rw [hh] at hk
        have : k' = k := by simpa using hk
        subst this
        exact atI_nat (j := 0) rfl
    have hkm : k ∈ x ++ y := by
      have : k ∈ y ++ x := by rw [← ehr]; exact List.mem_of_head? hk
      exact List.perm_append_comm.mem_iff.mp this
    have q11 := t11 (C := C) (e0 := some s2) hk0 hkm w6.f4 m18
    rw [e_seq, q11, Option.bind_some]
    dsimp only
    have n6 : DL.up f6 6 (some ⟨.shr, .int ((x ++ y).idxOf k : Nat)⟩) 6 = some ⟨.shr, .int ((x ++ y).idxOf k : Nat)⟩ := up_same _ _ _
    have n18 : DL.up f6 6 (some ⟨.shr, .int ((x ++ y).idxOf k : Nat)⟩) 18 = some ⟨.shr, wT (x ++ y)⟩ := by simp [DL.up, m18]
    have n19 : DL.up f6 6 (some ⟨.shr, .int ((x ++ y).idxOf k : Nat)⟩) 19 = some ⟨.shr, rT (slidw n e (-o))⟩ := by simp [DL.up, m19]
    have n12 : DL.up f6 6 (some ⟨.shr, .int ((x ++ y).idxOf k : Nat)⟩) 12 = some ⟨.shr, wT (slideA b e o here)⟩ := by simp [DL.up, m12]
    have n13 : DL.up f6 6 (some ⟨.shr, .int ((x ++ y).idxOf k : Nat)⟩) 13 = some ⟨.shr, rT (slidw n e o)⟩ := by simp [DL.up, m13]
    have w7 := w6.up (i := 6) (by omega) (some ⟨.shr, .int ((x ++ y).idxOf k : Nat)⟩)
    generalize DL.up f6 6 (some ⟨.shr, .int ((x ++ y).idxOf k : Nat)⟩) = f7 at n6 n18 n19 n12 n13 w7
    have hrot : (x ++ y).drop ((x ++ y).idxOf k) ++ (x ++ y).take ((x ++ y).idxOf k) = here := by
      rw [FG.rot_found nd (by rw [← ehr]; exact hk), ← ehr]
    have xyl : (x ++ y).length = here.length := by rw [ehr]; simp; omega
    have q12 := t12 (C := C) (e0 := some s2) (by omega) hrot w7.f4 n18 n6
    have q13 := t13 (C := C) (e0 := some s2) hn.2 eL oL hoe hne n13 n19
    have p2 := pow_le (t := t) (by omega)
    have q14 := t14 (C := C) (e0 := some s2) hn.2 eL oL (fun w m => ⟨(T.wl w m).1, by have := (T.wl w m).2; omega⟩) T.lw w7.f3 n12 n13
    rw [e_seq, q12, Option.bind_some]
    dsimp only
    rw [e_seq, q13, Option.bind_some]
    dsimp only
    rw [q14]
    refine ⟨.nx, _, s2, t + 1, ws.map (hom (slidw n e o)), slideA b e o here, .inr rfl, Nat.le_refl _, FG.turn_next hp0 T hN hne (fun w => slidw_flat n e o w), ⟨?_, ?_, ?_, ?_, ?_⟩, ss2, rfl⟩
    · rw [up_ne _ _ (by decide), up_ne _ _ (by decide)]; exact w7.f1
    · rw [up_ne _ _ (by decide), up_ne _ _ (by decide)]; exact w7.f2
    · rw [up_ne _ _ (by decide), up_same]
    · rw [up_same]
    · rw [up_ne _ _ (by decide), up_ne _ _ (by decide)]; exact w7.f5
theorem turns_run {C : Addr} {n : Nat} {p0 : List Int} {kept : Str} (hn : 1 ≤ n ∧ n ≤ 5) (hp0 : Plate n p0) : ∀ (ks : List Nat) (t : Nat) (ws : List (List Int)) (here : List Int) (f : Nat → Option Cell) (s : Src), t + ks.length ≤ 4 → Turn n p0 t ws here → Lw p0 ws here kept f → Sk s →
    ∃ f' s' t' ws' here', t' ≤ 4 ∧ Turn n p0 t' ws' here' ∧ Lw p0 ws' here' kept f' ∧ Sk s' ∧ forL (gN 7) (allL2_ C) (ks.map fun (q : Nat) => T.int (0 + (q : Int))) (stF f) (some s) = some (.nx, stF f', some s')
  | [], t, ws, here, f, s, ht, T, h, hs => ⟨f, s, t, ws, here, by simpa using ht, T, h, hs, rfl⟩
  | q :: ks, t, ws, here, f, s, ht, T, h, hs => by
    rw [List.length_cons] at ht
    have h7 := h.up (i := 7) (by omega) (some ⟨.shr, .int (0 + (q : Int))⟩)
    obtain ⟨fl, f1, s1, t1, ws1, here1, hfl, ht1, T1, h1, ss1, run⟩ := turn_run (C := C) hn hp0 (by omega) T h7 hs
    rw [List.map_cons, forL_cons, nk_int, e_gN, keep_shr, Option.bind_some, Option.bind_some, stF_set]
    rw [run, Option.bind_some]
    rcases hfl with rfl | rfl
    · exact ⟨f1, s1, t1, ws1, here1, by omega, T1, h1, ss1, rfl⟩
    · obtain ⟨f2, s2, t2, ws2, here2, a, b, c, d, e⟩ := turns_run hn hp0 ks t1 ws1 here1 f1 s1 (by omega) T1 h1 ss1
      exact ⟨f2, s2, t2, ws2, here2, a, b, c, d, e⟩
end DL

set_option Elab.async false
set_option linter.all false
set_option maxRecDepth 100000
set_option maxHeartbeats 2000000
namespace DL
open PySem PySem.Spec PyProof.Rows L2
open FG (sub hom Lets flat low und ring rots rmin core Plate Good slideA slideL slideB Nbr nxt slidw ones setw Sl slideS WF firsts firstsGo ren Turn)

theorem hands_eq : ∀ k, hands k = FG.hands k
  | 0 => rfl
  | k + 1 => by rw [hands, FG.hands, hands_eq k]
theorem pairsU_eq (lo : Int) : ∀ k, pairsU lo k = FG.pairsU lo k
  | 0 => rfl
  | k + 1 => by rw [pairsU, FG.pairsU, pairsU_eq lo k]
theorem typed_eq (h m : Nat) : typed h m = FG.typed h m := by
  unfold typed FG.typed
  rw [hands_eq, pairsU_eq]
theorem g_twice (a : Int) : gMul (.lst [.int a]) (.int 2) = some (true, .lst [.int a, .int a]) := by
  have hz := sizeLine_eq
  unfold gMul
  dsimp only
  rw [if_pos ⟨rfl, by decide, by decide, by rw [hz]; show 1 * 2 ≤ 16777216; decide⟩]
  rfl
theorem eqX_two (neg : Bool) (a b c d : Int) : gEqX neg (.lst [.int a, .int b]) (.lst [.int c, .int d]) = some (true, .bl (if neg then !decide ([a, b] = [c, d]) else decide ([a, b] = [c, d]))) := eqX_wL neg [a, b] [c, d]
section
variable {C : Addr} {n : Nat} {p0 here : List Int} {ws : List (List Int)} {kept : Str}
/-- the told plate's words, what the law asks of them -/
theorem told_body (hn : 1 ≤ n ∧ n ≤ 5) {one : List Int} (hp : Plate n one) {f : Nat → Option Cell} (h : Lw p0 ws here kept f) (h20 : f 20 = some ⟨.shr, wT one⟩) {e0 : Option Src} :
    ∃ f', Lw p0 ws here kept f' ∧ allL4_ C (stF f) e0 = some (.nx, stF f', e0) := by
  have hz := sizeLine_eq
  have hl := hp.length
  obtain ⟨s, run, shp, short⟩ := FG.told_all hn.1 hn.2 hp
  have d := FG.rows_dec hp
  obtain ⟨W, hT⟩ := R_told (C := C) (by omega) (by omega) hp d run
  obtain ⟨k, hk, hled⟩ := FG.shaped_some shp
  have fl := FG.firsts_len W.pl
  have fsub : ∀ x ∈ firsts s.p, x ∈ s.p := fun x m => (FG.mem_firstsGo m).1
  have hone : ∀ x ∈ firsts s.p, -x ∉ firsts s.p := fun x m => FG.firstsGo_one (W.pl.nz x (fsub x m)) m
  have hall : ∀ x : Int, (x ≠ 0 ∧ -(n : Int) ≤ x ∧ x ≤ n) → x ∈ firsts s.p ∨ -x ∈ firsts s.p := fun x hx => FG.firsts_all ((W.pl.mem x).mpr hx)
  have hL1 := lateL_len (firsts s.p) (firsts s.p) n
  have hL2 : ∀ l : Int, (l ≠ 0 ∧ -(n : Int) ≤ l ∧ l ≤ n) → sub (lateL (firsts s.p) (firsts s.p) n) l = [ren (firsts s.p) l] := fun l hl => sub_lateL hall hone hl
  have LL := FG.late_lets W hL1 hL2
  have lp := FG.led_plate W
  have u1 := FG.told_undone W hL1 hL2
  have u2 := FG.told_there W hL1 hL2
  have u3 := FG.told_rims hp d W hL1 hL2
  have u4 := FG.told_count hp d W
  have lnz : ∀ w ∈ lateL (firsts s.p) (firsts s.p) n, w.length ≤ 1 := fun w m => by
    obtain ⟨i, _, rfl⟩ := List.mem_map.mp m
    split <;> simp
  -- what there is
  have thereL : ∀ w ∈ s.ws.map (hom (lateL (firsts s.p) (firsts s.p) n)), Lets n w ∧ w.length ≤ 90 := fun w m => by
    obtain ⟨v, mv, rfl⟩ := List.mem_map.mp m
    refine ⟨FG.hom_lets LL v, ?_⟩
    have h1 := flat_len (sub_len lnz) v
    have h2 := FG.low_length (flat (sub (lateL (firsts s.p) (firsts s.p) n)) v)
    have h3 := short v mv
    unfold FG.hom
    omega
  have bl : ∀ v ∈ s.bs, v.length ≤ 400 := fun v mv => (W.bs v mv).2.2
  have undoneL : ∀ w ∈ (firsts s.p).map fun x => hom s.bs [x], Lets n w ∧ w.length ≤ 400 := fun w m => by
    obtain ⟨x, mx, rfl⟩ := List.mem_map.mp m
    refine ⟨FG.hom_lets (fun v mv => (W.bs v mv).1) _, ?_⟩
    rw [FG.hom_one]
    have := FG.low_length (sub s.bs x)
    have := sub_len bl x
    omega
  have tl : (s.ws.map (hom (lateL (firsts s.p) (firsts s.p) n))).length = n := by rw [List.length_map, W.lw]
  have ul : ((firsts s.p).map fun x => hom s.bs [x]).length = n := by rw [List.length_map, fl]
  have hT : g_told_plate C [wT one] = some (true, .tup [wT (s.p.map (ren (firsts s.p))), rT (s.ws.map (hom (lateL (firsts s.p) (firsts s.p) n))), rT ((firsts s.p).map fun x => hom s.bs [x])]) := hT
  have pr : ((FG.rims one).map fun r => ring (hom (s.ws.map (hom (lateL (firsts s.p) (firsts s.p) n))) r)).Perm (FG.rims (s.p.map (ren (firsts s.p)))) := by
    rw [← u3]
    exact (FG.perm_srt _).symm
  generalize hled2 : s.p.map (ren (firsts s.p)) = led at *
  generalize hth : s.ws.map (hom (lateL (firsts s.p) (firsts s.p) n)) = there at *
  generalize hun : ((firsts s.p).map fun x => hom s.bs [x]) = undone at *
  have lpl := lp.length
  unfold allL4_
  have q0 : L4_0 C (stF f) e0 = some (.nx, stF (up (up (up f 22 (some ⟨.shr, wT led⟩)) 23 (some ⟨.shr, rT there⟩)) 24 (some ⟨.shr, rT undone⟩)), e0) := by
    unfold L4_0
    simp [h20, hT]
  rw [e_seq, q0, Option.bind_some]
  dsimp only
  have a22 : up (up (up f 22 (some ⟨.shr, wT led⟩)) 23 (some ⟨.shr, rT there⟩)) 24 (some ⟨.shr, rT undone⟩) 22 = some ⟨.shr, wT led⟩ := by simp [up]
  have a23 : up (up (up f 22 (some ⟨.shr, wT led⟩)) 23 (some ⟨.shr, rT there⟩)) 24 (some ⟨.shr, rT undone⟩) 23 = some ⟨.shr, rT there⟩ := by simp [up]
  have a24 : up (up (up f 22 (some ⟨.shr, wT led⟩)) 23 (some ⟨.shr, rT there⟩)) 24 (some ⟨.shr, rT undone⟩) 24 = some ⟨.shr, rT undone⟩ := by simp [up]
  have a20 : up (up (up f 22 (some ⟨.shr, wT led⟩)) 23 (some ⟨.shr, rT there⟩)) 24 (some ⟨.shr, rT undone⟩) 20 = some ⟨.shr, wT one⟩ := by simp [up, h20]
  have w1 := ((h.up (i := 22) (by omega) (some ⟨.shr, wT led⟩)).up (i := 23) (by omega) (some ⟨.shr, rT there⟩)).up (i := 24) (by omega) (some ⟨.shr, rT undone⟩)
  generalize up (up (up f 22 (some ⟨.shr, wT led⟩)) 23 (some ⟨.shr, rT there⟩)) 24 (some ⟨.shr, rT undone⟩) = f1 at a22 a23 a24 a20 w1
  -- its type
  have cnt : (FG.rims led).length = n - 2 * k + 1 := by
    rw [hled]
    exact FG.typed_rims (by omega) (by omega)
  have htype := R_law_type_plate (C := C) (h := k) (m := n - 2 * k) hp (by omega) (rfl : (FG.rims one).length = _) (by rw [u4, cnt]) (by omega)
  rw [typed_eq, ← hled] at htype
  obtain ⟨x, hx⟩ := repr_w (n := n) (w := led) hn.2 (fun y my => (lp.mem y).mp my) (by omega)
  have q1 : L4_1 C (stF f1) e0 = some (.nx, stF f1, e0) := by
    have c1 : bVal (xBin (gEqX true) (xCall gRepr (aCons (xName 22) aNil)) (xCall gRepr (aCons (xCall (gArity 1 (g__law_type_plate C)) (aCons (xName 20) aNil)) aNil))) (stF f1) e0 = some (false, e0) := by
      simp [a22, a20, hx, htype]
    have l1 : xLst (aCons (xCall gLen (aCons (xName 23) aNil)) (aCons (xCall gLen (aCons (xName 24) aNil)) aNil)) (stF f1) e0 = some (⟨.own, .lst [.int n, .int n]⟩, e0) := by
      simp [a23, a24, tl, ul, jl]
    have l2 : xLst (aCons (xBin gDiv (xCall gLen (aCons (xName 20) aNil)) (xC (.int 2))) aNil) (stF f1) e0 = some (⟨.own, .lst [.int n]⟩, e0) := by
      simp [a20, g_div, half_len hp, jl]
    have c2 : bVal (xBin (gEqX true) (xLst (aCons (xCall gLen (aCons (xName 23) aNil)) (aCons (xCall gLen (aCons (xName 24) aNil)) aNil))) (xBin gMul (xLst (aCons (xBin gDiv (xCall gLen (aCons (xName 20) aNil)) (xC (.int 2))) aNil)) (xC (.int 2)))) (stF f1) e0 = some (false, e0) := by
      rw [e_bval, e_bin, l1, Option.bind_some, e_bin, l2, Option.bind_some, e_c, Option.bind_some]
      dsimp only
      rw [g_twice]
      simp [eqX_two]
    unfold L4_1
    rw [e_if, e_or, c1, Option.bind_some, if_neg (by simp), c2, Option.bind_some, if_neg (by simp)]
    rfl
  rw [e_seq, q1, Option.bind_some]
  dsimp only
  have o1 := ones_F (n := n) (f := f1) (e0 := e0) (a := aCons (xBin gDiv (xCall gLen (aCons (xName 20) aNil)) (xC (.int 2))) aNil) (v := 6) (k := .shr) (j := (one.length : Int) / 2) (by omega) (by decide) (by simp [a20, g_div]) (half_len hp)
  have q2 : L4_2 C (stF f1) e0 = some (.nx, stF f1, e0) := by
    have hh := led_ones (C := C) (n := n) (row_rT undone) ul (fun v mv => (undoneL v mv).2) (as := there) (fun v mv => ⟨(thereL v mv).1, by have := (thereL v mv).2; omega⟩) (by omega) (fun k => itO_rT k _) (ones n) u1 (f := f1) (e := e0) (i := 23) (j := 24) (v := 15) (by decide) ⟨by decide, by decide⟩ (by decide) a23 a24 ⟨_, rfl⟩ rfl
    unfold L4_2
    rw [e_if, e_bval, e_bin, hh, Option.bind_some, o1]
    simp
  have q3 : L4_3 C (stF f1) e0 = some (.nx, stF f1, e0) := by
    have hh := led_ones (C := C) (n := n) (row_rT there) tl (fun v mv => by have := (thereL v mv).2; omega) (as := undone) undoneL (by omega) (fun k => itO_rT k _) (ones n) u2 (f := f1) (e := e0) (i := 24) (j := 23) (v := 15) (by decide) ⟨by decide, by decide⟩ (by decide) a24 a23 ⟨_, rfl⟩ rfl
    unfold L4_3
    rw [e_if, e_bval, e_bin, hh, Option.bind_some, o1]
    simp
  have q4 : L4_4 C (stF f1) e0 = some (.nx, stF f1, e0) := by
    have hh := led_sorted (C := C) (m := 90) hp lp (by omega) (row_rT there) tl (by omega) thereL (by omega) pr (f := f1) (e := e0) (i := 20) (j := 23) ⟨by decide, by decide⟩ ⟨by decide, by decide⟩ a20 a23 rfl
    have hR := R_law_rims (C := C) lp (by omega)
    unfold L4_4
    rw [e_if, e_bval, e_bin, hh]
    simp [a22, hR]
  rw [e_seq, q2, Option.bind_some]
  dsimp only
  rw [e_seq, q3, Option.bind_some]
  dsimp only
  rw [q4]
  exact ⟨f1, w1, rfl⟩
end
def namesL : List Str := ["script", "source", "plate", "words", "here", "kept", "k", "turn", "some", "place", "is_ahead", "due", "late", "told", "rim", "word", "end", "over", "back", "again", "one", "j", "led", "there", "undone"]
theorem sem54 (C : Addr) (ns : List Int) (hns : ns.length ≤ 63) : ∃ k S' e', bl C (slotsL namesL) (some (srcOf ns)) = some (.ret ⟨k, .bl true⟩, S', e') := by
  have hz := sizeLine_eq
  have hs0 : Sk (srcOf ns) := by
    unfold Sk srcOf
    simp
    omega
  have e0 : slotsL namesL = stF fun i => if i = 1 then some ⟨.shr, .src⟩ else none := rfl
  obtain ⟨n, p, s1, n1, n5, hp, ss1, hpl⟩ := R_plate (C := C) (m := 5) (by omega) hs0
  have hpl : g__law_plate C [.src, .int 5] (srcOf ns) = some (true, wT p, s1) := hpl
  have hn : 1 ≤ n ∧ n ≤ 5 := ⟨n1, n5⟩
  have hl := hp.length
  obtain ⟨kept, hkept⟩ := repr_w (n := n) (w := p) n5 (fun y my => (hp.mem y).mp my) (by omega)
  rw [bl_eq, e0]
  generalize hf0 : (fun i : Nat => if i = 1 then some (Cell.mk .shr .src) else none) = f0
  have h01 : f0 1 = some ⟨.shr, .src⟩ := by rw [← hf0]; rfl
  unfold allL
  have q0 : L0 C (stF f0) (some (srcOf ns)) = some (.nx, stF (up f0 2 (some ⟨.shr, wT p⟩)), some s1) := by
    unfold L0
    simp [h01, hpl]
  rw [e_seq, q0, Option.bind_some]
  dsimp only
  have a2 : up f0 2 (some ⟨.shr, wT p⟩) 2 = some ⟨.shr, wT p⟩ := up_same _ _ _
  have a1 : up f0 2 (some ⟨.shr, wT p⟩) 1 = some ⟨.shr, .src⟩ := by simp [up, h01]
  generalize up f0 2 (some ⟨.shr, wT p⟩) = f1 at a2 a1
  have q1 : L1 C (stF f1) (some s1) = some (.nx, stF (up (up (up f1 3 (some ⟨.shr, rT (ones n)⟩)) 4 (some ⟨.shr, wT p⟩)) 5 (some ⟨.shr, .str kept⟩)), some s1) := by
    have o1 := ones_F (n := n) (f := f1) (e0 := some s1) (a := aCons (xBin gDiv (xCall gLen (aCons (xName 2) aNil)) (xC (.int 2))) aNil) (v := 6) (k := .shr) (j := (p.length : Int) / 2) (by omega) (by decide) (by simp [a2, g_div]) (half_len hp)
    have ht := tupN (us := [rT (ones n), wT p, .str kept]) rfl (by simp)
    unfold L1
    rw [e_asg, e_call, e_acons, e_call, e_acons, o1]
    simp [a2, hkept, ht]
  rw [e_seq, q1, Option.bind_some]
  dsimp only
  have w1 : Lw p (ones n) p kept (up (up (up f1 3 (some ⟨.shr, rT (ones n)⟩)) 4 (some ⟨.shr, wT p⟩)) 5 (some ⟨.shr, .str kept⟩)) := ⟨by simp [up, a1], by simp [up, a2], by simp [up], by simp [up], by simp [up]⟩
  generalize up (up (up f1 3 (some ⟨.shr, rT (ones n)⟩)) 4 (some ⟨.shr, wT p⟩)) 5 (some ⟨.shr, .str kept⟩) = f2 at w1
  obtain ⟨f3, s3, t3, ws, here, ht3, T3, w3, ss3, hturns⟩ := turns_run (C := C) hn hp (List.range 4) 0 (ones n) p f2 s1 (by simp) (FG.turn_start hp) w1 ss1
  have q2 : L2 C (stF f2) (some s1) = some (.nx, stF f3, some s3) := by
    have hit := it_r1 (S := stF f2) (e := some s1) (a := aCons (xC (.int 4)) aNil) (k := .shr) (n := 4) (j := 4) (by simp) rfl (by omega)
    unfold L2
    rw [e_for, hit, Option.bind_some]
    exact hturns
  rw [e_seq, q2, Option.bind_some]
  dsimp only
  have p2 := pow_le ht3
  have hl3 := T3.pl.length
  have q3 : L3 C (stF f3) (some s3) = some (.nx, stF f3, some s3) := by
    have hh := led_sorted (C := C) (m := 16) hp T3.pl (by omega) (row_rT ws) T3.lw (by omega) (fun v mv => ⟨(T3.wl v mv).1, by have := (T3.wl v mv).2; omega⟩) (by omega) T3.rm (f := f3) (e := some s3) (i := 2) (j := 3) ⟨by decide, by decide⟩ ⟨by decide, by decide⟩ w3.f2 w3.f3 rfl
    have hR := R_law_rims (C := C) T3.pl (by omega)
    unfold L3
    rw [e_if, e_bval, e_bin, hh]
    simp [w3.f4, hR]
  rw [e_seq, q3, Option.bind_some]
  dsimp only
  -- both plates told
  obtain ⟨f4, w4, b1⟩ := told_body (C := C) hn hp (w3.up (i := 20) (by omega) (some ⟨.shr, wT p⟩)) (up_same _ _ _) (e0 := some s3)
  obtain ⟨f5, w5, b2⟩ := told_body (C := C) hn T3.pl (w4.up (i := 20) (by omega) (some ⟨.shr, wT here⟩)) (up_same _ _ _) (e0 := some s3)
  have q4 : L4 C (stF f3) (some s3) = some (.nx, stF f5, some s3) := by
    have ht := tupN (us := [wT p, wT here]) rfl (by simp)
    have hit : iSeq (xCall gTup (aCons (xName 2) (aCons (xName 4) aNil))) (stF f3) (some s3) = some ([wT p, wT here], some s3) := by
      simp [w3.f2, w3.f4, ht, itT]
    unfold L4
    rw [e_for, hit, Option.bind_some]
    dsimp only
    rw [forL_cons, nk_wT, e_gN, keep_shr, Option.bind_some, Option.bind_some, stF_set, b1, Option.bind_some]
    dsimp only
    rw [forL_cons, nk_wT, e_gN, keep_shr, Option.bind_some, Option.bind_some, stF_set, b2, Option.bind_some]
    rfl
  rw [e_seq, q4, Option.bind_some]
  dsimp only
  refine ⟨.shr, stF f5, some s3, ?_⟩
  unfold L5
  simp [w5.f2, w5.f5, hkept]
end DL

set_option Elab.async false
set_option linter.all false
set_option maxRecDepth 100000
open PySem PySem.W PyProof.Rows
set_option maxHeartbeats 0 in
theorem PySem.Challenge.cw_loopsonplates_k54_slides_by_own_going_holds : PySem.Challenge.rw_loopsonplates_k54_slides_by_own_going.Holds := by
  w_on; o_law; k_head; (case hw => w_witness2)
  k_fill
  refine DL.walk_bare (l := PySem.Challenge.rw_loopsonplates_k54_slides_by_own_going) (n := 63) rfl (by decide) rfl (fun w h Y => PySem.W.kIn_of Y) ?F
  case F =>
    intro w mg fa h KX G hmg
    refine' DL.head_mk KX G hmg ?al ?ll ?cl ?kl { m_len := PySem.W.mg_none_of KX G ?m_len, m_MOST_LETTERS := DL.const_mk KX G ?m_MOST_LETTERS, d_not_long := DL.def1_mk KX G ?ad_not_long ?ld_not_long ?cd_not_long ?kd_not_long (fun _ _ _ _ _ _ us hl => match us, hl with | [_], _ => rfl), m_tuple := PySem.W.mg_none_of KX G ?m_tuple, d_word_low := DL.def1_mk KX G ?ad_word_low ?ld_word_low ?cd_word_low ?kd_word_low (fun _ _ _ _ _ _ us hl => match us, hl with | [_], _ => rfl), d_word_undone := DL.def1_mk KX G ?ad_word_undone ?ld_word_undone ?cd_word_undone ?kd_word_undone (fun _ _ _ _ _ _ us hl => match us, hl with | [_], _ => rfl), d_slid_ends := DL.def1_mk KX G ?ad_slid_ends ?ld_slid_ends ?cd_slid_ends ?kd_slid_ends (fun _ _ _ _ _ _ us hl => match us, hl with | [_, _, _], _ => rfl), d_end_word := DL.def1_mk KX G ?ad_end_word ?ld_end_word ?cd_end_word ?kd_end_word (fun _ _ _ _ _ _ us hl => match us, hl with | [_, _], _ => rfl), m_list := PySem.W.mg_none_of KX G ?m_list, m_range := PySem.W.mg_none_of KX G ?m_range, cl_Sliding := ⟨?pgcl_Sliding, ?hdcl_Sliding, ?pocl_Sliding, ?sacl_Sliding⟩, na_Sliding_plate := DL.noattr_mk ?na_Sliding_plate, na_Sliding_words := DL.noattr_mk ?na_Sliding_words, na_Sliding_backs := DL.noattr_mk ?na_Sliding_backs, d_Sliding___init__ := DL.def3_mk KX G ?zC_Sliding ?md_Sliding___init__ ?kcd_Sliding___init__ ?ad_Sliding___init__ ?id_Sliding___init__ ?ld_Sliding___init__ ?cd_Sliding___init__ ?kd_Sliding___init__ (fun _ _ _ _ _ _ us hl => match us, hl with | [_, _], _ => rfl), m_enumerate := PySem.W.mg_none_of KX G ?m_enumerate, d_Sliding_linked := DL.def2_mk ?ad_Sliding_linked ?id_Sliding_linked ?ld_Sliding_linked ?cd_Sliding_linked ?kd_Sliding_linked (fun _ _ _ _ _ _ us hl => match us, hl with | [_, _], _ => rfl), m_abs := PySem.W.mg_none_of KX G ?m_abs, m_int := PySem.W.mg_none_of KX G ?m_int, d__law_source := DL.def1_mk KX G ?ad__law_source ?ld__law_source ?cd__law_source ?kd__law_source (fun _ _ _ _ _ _ us hl => match us, hl with | [_], _ => rfl), m_max := PySem.W.mg_none_of KX G ?m_max, d__law_pick := DL.def1_mk KX G ?ad__law_pick ?ld__law_pick ?cd__law_pick ?kd__law_pick (fun _ _ _ _ _ _ us hl => match us, hl with | [_, _], _ => rfl), d__law_word_low := DL.def1_mk KX G ?ad__law_word_low ?ld__law_word_low ?cd__law_word_low ?kd__law_word_low (fun _ _ _ _ _ _ us hl => match us, hl with | [_], _ => rfl), d__law_undone := DL.def1_mk KX G ?ad__law_undone ?ld__law_undone ?cd__law_undone ?kd__law_undone (fun _ _ _ _ _ _ us hl => match us, hl with | [_], _ => rfl), d__law_slid := DL.def1_mk KX G ?ad__law_slid ?ld__law_slid ?cd__law_slid ?kd__law_slid (fun _ _ _ _ _ _ us hl => match us, hl with | [_, _, _], _ => rfl), d__law_slides := DL.def1_mk KX G ?ad__law_slides ?ld__law_slides ?cd__law_slides ?kd__law_slides (fun _ _ _ _ _ _ us hl => match us, hl with | [_], _ => rfl), d_slid := DL.def1_mk KX G ?ad_slid ?ld_slid ?cd_slid ?kd_slid (fun _ _ _ _ _ _ us hl => match us, hl with | [_, _, _], _ => rfl), d_letters_put := DL.def1_mk KX G ?ad_letters_put ?ld_letters_put ?cd_letters_put ?kd_letters_put (fun _ _ _ _ _ _ us hl => match us, hl with | [_, _], _ => rfl), d__law_of := DL.def1_mk KX G ?ad__law_of ?ld__law_of ?cd__law_of ?kd__law_of (fun _ _ _ _ _ _ us hl => match us, hl with | [_, _], _ => rfl), d__law_mixed := DL.def1_mk KX G ?ad__law_mixed ?ld__law_mixed ?cd__law_mixed ?kd__law_mixed (fun _ _ _ _ _ _ us hl => match us, hl with | [_, _], _ => rfl), m_min := PySem.W.mg_none_of KX G ?m_min, d__law_ring := DL.def1_mk KX G ?ad__law_ring ?ld__law_ring ?cd__law_ring ?kd__law_ring (fun _ _ _ _ _ _ us hl => match us, hl with | [_], _ => rfl), d__law_led := DL.def1_mk KX G ?ad__law_led ?ld__law_led ?cd__law_led ?kd__law_led (fun _ _ _ _ _ _ us hl => match us, hl with | [_, _], _ => rfl), d_Sliding_slide := DL.def2_mk ?ad_Sliding_slide ?id_Sliding_slide ?ld_Sliding_slide ?cd_Sliding_slide ?kd_Sliding_slide (fun _ _ _ _ _ _ us hl => match us, hl with | [_, _, _], _ => rfl), d_Sliding_renamed := DL.def2_mk ?ad_Sliding_renamed ?id_Sliding_renamed ?ld_Sliding_renamed ?cd_Sliding_renamed ?kd_Sliding_renamed (fun _ _ _ _ _ _ us hl => match us, hl with | [_], _ => rfl), d__law_plate := DL.def1_mk KX G ?ad__law_plate ?ld__law_plate ?cd__law_plate ?kd__law_plate (fun _ _ _ _ _ _ us hl => match us, hl with | [_, _], _ => rfl), d__law_drawn_ring := DL.def1_mk KX G ?ad__law_drawn_ring ?ld__law_drawn_ring ?cd__law_drawn_ring ?kd__law_drawn_ring (fun _ _ _ _ _ _ us hl => match us, hl with | [_, _, _], _ => rfl), m_dict := PySem.W.mg_none_of KX G ?m_dict, m_sorted := PySem.W.mg_none_of KX G ?m_sorted, d__law_rims := DL.def1_mk KX G ?ad__law_rims ?ld__law_rims ?cd__law_rims ?kd__law_rims (fun _ _ _ _ _ _ us hl => match us, hl with | [_], _ => rfl), d_Sliding_gathered := DL.def2_mk ?ad_Sliding_gathered ?id_Sliding_gathered ?ld_Sliding_gathered ?cd_Sliding_gathered ?kd_Sliding_gathered (fun _ _ _ _ _ _ us hl => match us, hl with | [_, _, _], _ => rfl), d__law_type_plate := DL.def1_mk KX G ?ad__law_type_plate ?ld__law_type_plate ?cd__law_type_plate ?kd__law_type_plate (fun _ _ _ _ _ _ us hl => match us, hl with | [_], _ => rfl), d_Sliding_handle := DL.def2_mk ?ad_Sliding_handle ?id_Sliding_handle ?ld_Sliding_handle ?cd_Sliding_handle ?kd_Sliding_handle (fun _ _ _ _ _ _ us hl => match us, hl with | [_, _, _, _], _ => rfl), d_Sliding_run := DL.def2_mk ?ad_Sliding_run ?id_Sliding_run ?ld_Sliding_run ?cd_Sliding_run ?kd_Sliding_run (fun _ _ _ _ _ _ us hl => match us, hl with | [_], _ => rfl), d_told_plate := DL.def1_mk KX G ?ad_told_plate ?ld_told_plate ?cd_told_plate ?kd_told_plate (fun _ _ _ _ _ _ us hl => match us, hl with | [_], _ => rfl), m_repr := PySem.W.mg_none_of KX G ?m_repr } DL.sem54
    (case al => k_is)
    (case ll => k_is)
    (case cl => k_is)
    (case kl => k_is)
    (case zC_Sliding => k_is)
    (case m_len => k_is)
    (case m_MOST_LETTERS => k_is)
    (case ad_not_long => k_is)
    (case ld_not_long => k_is)
    (case cd_not_long => k_is)
    (case kd_not_long => k_is)
    (case m_tuple => k_is)
    (case ad_word_low => k_is)
    (case ld_word_low => k_is)
    (case cd_word_low => k_is)
    (case kd_word_low => k_is)
    (case ad_word_undone => k_is)
    (case ld_word_undone => k_is)
    (case cd_word_undone => k_is)
    (case kd_word_undone => k_is)
    (case ad_slid_ends => k_is)
    (case ld_slid_ends => k_is)
    (case cd_slid_ends => k_is)
    (case kd_slid_ends => k_is)
    (case ad_end_word => k_is)
    (case ld_end_word => k_is)
    (case cd_end_word => k_is)
    (case kd_end_word => k_is)
    (case m_list => k_is)
    (case m_range => k_is)
    (case pgcl_Sliding => k_is)
    (case hdcl_Sliding => k_is)
    (case pocl_Sliding => k_is)
    (case sacl_Sliding => k_is)
    (case na_Sliding_plate => k_is)
    (case na_Sliding_words => k_is)
    (case na_Sliding_backs => k_is)
    (case md_Sliding___init__ => k_is)
    (case kcd_Sliding___init__ => k_is)
    (case ad_Sliding___init__ => k_is)
    (case id_Sliding___init__ => k_is)
    (case ld_Sliding___init__ => k_is)
    (case cd_Sliding___init__ => k_is)
    (case kd_Sliding___init__ => k_is)
    (case m_enumerate => k_is)
    (case ad_Sliding_linked => k_is)
    (case id_Sliding_linked => k_is)
    (case ld_Sliding_linked => k_is)
    (case cd_Sliding_linked => k_is)
    (case kd_Sliding_linked => k_is)
    (case m_abs => k_is)
    (case m_int => k_is)
    (case ad__law_source => k_is)
    (case ld__law_source => k_is)
    (case cd__law_source => k_is)
    (case kd__law_source => k_is)
    (case m_max => k_is)
    (case ad__law_pick => k_is)
    (case ld__law_pick => k_is)
    (case cd__law_pick => k_is)
    (case kd__law_pick => k_is)
    (case ad__law_word_low => k_is)
    (case ld__law_word_low => k_is)
    (case cd__law_word_low => k_is)
    (case kd__law_word_low => k_is)
    (case ad__law_undone => k_is)
    (case ld__law_undone => k_is)
    (case cd__law_undone => k_is)
    (case kd__law_undone => k_is)
    (case ad__law_slid => k_is)
    (case ld__law_slid => k_is)
    (case cd__law_slid => k_is)
    (case kd__law_slid => k_is)
    (case ad__law_slides => k_is)
    (case ld__law_slides => k_is)
    (case cd__law_slides => k_is)
    (case kd__law_slides => k_is)
    (case ad_slid => k_is)
    (case ld_slid => k_is)
    (case cd_slid => k_is)
    (case kd_slid => k_is)
    (case ad_letters_put => k_is)
    (case ld_letters_put => k_is)
    (case cd_letters_put => k_is)
    (case kd_letters_put => k_is)
    (case ad__law_of => k_is)
    (case ld__law_of => k_is)
    (case cd__law_of => k_is)
    (case kd__law_of => k_is)
    (case ad__law_mixed => k_is)
    (case ld__law_mixed => k_is)
    (case cd__law_mixed => k_is)
    (case kd__law_mixed => k_is)
    (case m_min => k_is)
    (case ad__law_ring => k_is)
    (case ld__law_ring => k_is)
    (case cd__law_ring => k_is)
    (case kd__law_ring => k_is)
    (case ad__law_led => k_is)
    (case ld__law_led => k_is)
    (case cd__law_led => k_is)
    (case kd__law_led => k_is)
    (case ad_Sliding_slide => k_is)
    (case id_Sliding_slide => k_is)
    (case ld_Sliding_slide => k_is)
    (case cd_Sliding_slide => k_is)
    (case kd_Sliding_slide => k_is)
    (case ad_Sliding_renamed => k_is)
    (case id_Sliding_renamed => k_is)
    (case ld_Sliding_renamed => k_is)
    (case cd_Sliding_renamed => k_is)
    (case kd_Sliding_renamed => k_is)
    (case ad__law_plate => k_is)
    (case ld__law_plate => k_is)
    (case cd__law_plate => k_is)
    (case kd__law_plate => k_is)
    (case ad__law_drawn_ring => k_is)
    (case ld__law_drawn_ring => k_is)
    (case cd__law_drawn_ring => k_is)
    (case kd__law_drawn_ring => k_is)
    (case m_dict => k_is)
    (case m_sorted => k_is)
    (case ad__law_rims => k_is)
    (case ld__law_rims => k_is)
    (case cd__law_rims => k_is)
    (case kd__law_rims => k_is)
    (case ad_Sliding_gathered => k_is)
    (case id_Sliding_gathered => k_is)
    (case ld_Sliding_gathered => k_is)
    (case cd_Sliding_gathered => k_is)
    (case kd_Sliding_gathered => k_is)
    (case ad__law_type_plate => k_is)
    (case ld__law_type_plate => k_is)
    (case cd__law_type_plate => k_is)
    (case kd__law_type_plate => k_is)
    (case ad_Sliding_handle => k_is)
    (case id_Sliding_handle => k_is)
    (case ld_Sliding_handle => k_is)
    (case cd_Sliding_handle => k_is)
    (case kd_Sliding_handle => k_is)
    (case ad_Sliding_run => k_is)
    (case id_Sliding_run => k_is)
    (case ld_Sliding_run => k_is)
    (case cd_Sliding_run => k_is)
    (case kd_Sliding_run => k_is)
    (case ad_told_plate => k_is)
    (case ld_told_plate => k_is)
    (case cd_told_plate => k_is)
    (case kd_told_plate => k_is)
    (case m_repr => k_is)


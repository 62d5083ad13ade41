import PyProof.Rows.All
import Wide.All
import OpenK.AllK
import Wide.FinOn
import HandS.ForMost
import HandS.ForExc
import HandS.Evl
import HandS.Conv
import HandS.TupMul
import HandS.TupAny
import HandS.IsInst
import HandS.Wide
import HandS.Flow
import HandS.Deep
import HandS.Style
import HandS.Steps
import HandS.Zip
import HandS.Codes
import HandS.RevTup
import KE.KStateDown
import HandS.More
import HandS.Defaults
import HandS.Head0
import HandS.Head1
import HandS.Head2
import HandS.HeadEnd
import HandS.HeadHook1
import HandS.HeadHook2
import HandS.Exc
import HandS.ExcOwn
import HandS.ExcIs
import HandS.ExcField
import HandS.TryOnly
import HandS.WordsExc
import HandS.List
import PySem.Challenge.RW_hourhaul_k85_nets_laned_and_open
set_option Elab.async false
set_option linter.all false
set_option maxRecDepth 100000
set_option maxHeartbeats 2000000
/-! DL: a calculus over plain data (tuples and frozen lists as values), above the readings of HandS. -/
namespace DL
open PySem L2
open Evl (Ex)

inductive D where
  | non | bl (b : Bool) | int (i : Int) | str (x : Str) | ty (n : String) | ref (a : Addr)
  | tup (ds : List D) | lst (ds : List D) | rd (ds : List D)

inductive DO where
  | lst (ds : List D)
  | ins (C dx : Addr) (fs : List (Str × D))
  | xd (fs : List (Str × D))
  | dK (kvs : List (Key × D))
  | dT (kvs : List (List Key × D))
  | own (x : Addr)

abbrev DH := Addr → Option DO
abbrev DSt := List (Option D)
abbrev DK := D → DH → Prop
def dupd (h : DH) (a : Addr) (o : DO) : DH := fun b => if b = a then some o else h b
theorem du_same {h : DH} {a : Addr} {o : DO} : dupd h a o a = some o := by unfold dupd; rw [if_pos rfl]
theorem du_ne {h : DH} {a b : Addr} {o : DO} (e : b ≠ a) : dupd h a o b = h b := by unfold dupd; rw [if_neg e]
theorem du_du {h : DH} {a : Addr} {o u : DO} : dupd (dupd h a o) a u = dupd h a u := by
  funext b; unfold dupd; split <;> rfl
theorem dne_none {h : DH} {a b : Addr} {o : DO} (e : h a = some o) (e' : h b = none) : a ≠ b := by
  intro z; subst z; rw [e] at e'; cases e'
/-- a fresh one is none of the others -/
theorem dfresh_ne {h : DH} {a b : Addr} {o : DO} (e : dupd h a o b = none) : b ≠ a := by
  intro z; subst z; rw [du_same] at e; cases e
theorem dfresh_of {h : DH} {a b : Addr} {o : DO} (e : dupd h a o b = none) : h b = none := by
  rw [du_ne (dfresh_ne e)] at e; exact e

mutual
inductive Rp (K : PySem.W.Frag) (G : Hp) : D → V → Prop
  | non : Rp K G .non .non
  | bl (b : Bool) : Rp K G (.bl b) (.bl b)
  | int (i : Int) : Rp K G (.int i) (.int i)
  | str (x : Str) : Rp K G (.str x) (.str x)
  | ty (n : String) : Rp K G (.ty n) (.ty n)
  | ref (a : Addr) : Rp K G (.ref a) (.ref a)
  | tup {a : Addr} {vs : List V} {ds : List D} (h : SqT K G a vs) (r : Rps K G ds vs) : Rp K G (.tup ds) (.ref a)
  | lst {a : Addr} {vs : List V} {ds : List D} (h : G a = some (.lst vs)) (r : Rps K G ds vs) : Rp K G (.lst ds) (.ref a)
  | rd {a : Addr} {vs : List V} {ds : List D} (h : SqL K G a vs) (r : Rps K G ds vs) : Rp K G (.rd ds) (.ref a)
inductive Rps (K : PySem.W.Frag) (G : Hp) : List D → List V → Prop
  | nil : Rps K G [] []
  | cons {d : D} {v : V} {ds : List D} {vs : List V} (h : Rp K G d v) (r : Rps K G ds vs) : Rps K G (d :: ds) (v :: vs)
end

section
variable {K : PySem.W.Frag} {G G' G2 : Hp}
mutual
theorem Rp.mono (e : Ex G G') : ∀ {d : D} {v : V}, Rp K G d v → Rp K G' d v
  | _, _, .non => .non
  | _, _, .bl b => .bl b
  | _, _, .int i => .int i
  | _, _, .str x => .str x
  | _, _, .ty n => .ty n
  | _, _, .ref a => .ref a
  | _, _, .tup h r => .tup (Evl.ex_t e h) (Rps.mono e r)
  | _, _, .lst h r => .lst (e _ _ h) (Rps.mono e r)
  | _, _, .rd h r => .rd (Evl.ex_l e h) (Rps.mono e r)
theorem Rps.mono (e : Ex G G') : ∀ {ds : List D} {vs : List V}, Rps K G ds vs → Rps K G' ds vs
  | _, _, .nil => .nil
  | _, _, .cons h r => .cons (Rp.mono e h) (Rps.mono e r)
end
theorem Rps.length : ∀ {ds : List D} {vs : List V}, Rps K G ds vs → ds.length = vs.length
  | _, _, .nil => rfl
  | _, _, .cons _ r => by rw [List.length_cons, List.length_cons, Rps.length r]
theorem Rps.get : ∀ {ds : List D} {vs : List V} {i : Nat} {d : D}, Rps K G ds vs → ds[i]? = some d → ∃ v, vs[i]? = some v ∧ Rp K G d v
  | _, _, _, _, .nil, e => by simp at e
  | _, _, 0, _, .cons h _, e => by simp at e; subst e; exact ⟨_, rfl, h⟩
  | _, _, i + 1, d, .cons _ r, e => by
    obtain ⟨v, h1, h2⟩ := Rps.get (i := i) (d := d) r (by simpa using e)
    exact ⟨v, by simpa using h1, h2⟩
theorem Rps.getv : ∀ {ds : List D} {vs : List V} {i : Nat} {v : V}, Rps K G ds vs → vs[i]? = some v → ∃ d, ds[i]? = some d ∧ Rp K G d v
  | _, _, _, _, .nil, e => by simp at e
  | _, _, 0, _, .cons h _, e => by simp at e; subst e; exact ⟨_, rfl, h⟩
  | _, _, i + 1, v, .cons _ r, e => by
    obtain ⟨d, h1, h2⟩ := Rps.getv (i := i) (v := v) r (by simpa using e)
    exact ⟨d, by simpa using h1, h2⟩
theorem Rps.append : ∀ {ds es : List D} {vs ws : List V}, Rps K G ds vs → Rps K G es ws → Rps K G (ds ++ es) (vs ++ ws)
  | _, _, _, _, .nil, s => s
  | _, _, _, _, .cons h r, s => .cons h (Rps.append r s)
theorem Rps.set {d : D} {v : V} (h : Rp K G d v) : ∀ {ds : List D} {vs : List V} (i : Nat), Rps K G ds vs → Rps K G (ds.set i d) (vs.set i v)
  | _, _, _, .nil => .nil
  | _, _, 0, .cons _ r => .cons h r
  | _, _, i + 1, .cons q r => .cons q (Rps.set h i r)
theorem Rps.take : ∀ {ds : List D} {vs : List V} (n : Nat), Rps K G ds vs → Rps K G (ds.take n) (vs.take n)
  | _, _, 0, _ => .nil
  | _, _, _ + 1, .nil => .nil
  | _, _, n + 1, .cons h r => .cons h (Rps.take n r)
theorem Rps.drop : ∀ {ds : List D} {vs : List V} (n : Nat), Rps K G ds vs → Rps K G (ds.drop n) (vs.drop n)
  | _, _, 0, r => r
  | _, _, _ + 1, .nil => .nil
  | _, _, n + 1, .cons _ r => Rps.drop n r
theorem Rps.rev : ∀ {ds : List D} {vs : List V}, Rps K G ds vs → Rps K G ds.reverse vs.reverse
  | _, _, .nil => .nil
  | _, _, .cons h r => by rw [List.reverse_cons, List.reverse_cons]; exact (Rps.rev r).append (.cons h .nil)
theorem Rps.at {ds : List D} {vs : List V} {i : Int} {d : D} (r : Rps K G ds vs) (e : atI ds i = some d) : ∃ v, atI vs i = some v ∧ Rp K G d v := by
  unfold atI at e ⊢
  rw [← r.length]
  cases q : ixN ds.length i with
  | none => rw [q] at e; cases e
  | some j =>
    rw [q] at e
    exact r.get e
theorem Rps.nil_iff {ds : List D} {vs : List V} (r : Rps K G ds vs) : vs = [] ↔ ds = [] := by
  cases r with
  | nil => simp
  | cons _ _ => simp
theorem Rps.ints : ∀ {ns : List Int} {vs : List V}, Rps K G (ns.map D.int) vs → vs = ns.map V.int
  | [], _, .nil => rfl
  | n :: ns, _, .cons (.int _) r => by rw [Rps.ints r]; rfl
theorem Rps.bls : ∀ {ns : List Bool} {vs : List V}, Rps K G (ns.map D.bl) vs → vs = ns.map V.bl
  | [], _, .nil => rfl
  | n :: ns, _, .cons (.bl _) r => by rw [Rps.bls r]; rfl
theorem Rps.of_ints : ∀ (ns : List Int), Rps K G (ns.map D.int) (ns.map V.int)
  | [] => .nil
  | n :: ns => .cons (.int n) (Rps.of_ints ns)
end

/-- fields, by name -/
def RpF (K : PySem.W.Frag) (G : Hp) (fs : List (Str × D)) (gs : List (Str × V)) : Prop := Paired (fun (p : Str × D) (q : Str × V) => p.1 = q.1 ∧ Rp K G p.2 q.2) fs gs
def RpK {κ : Type} (K : PySem.W.Frag) (G : Hp) (fs : List (κ × D)) (gs : List (κ × V)) : Prop := Paired (fun (p : κ × D) (q : κ × V) => p.1 = q.1 ∧ Rp K G p.2 q.2) fs gs
def RpO (K : PySem.W.Frag) (G : Hp) : DO → HO → Prop
  | .lst ds, .lst vs => Rps K G ds vs
  | .ins C dx fs, .ins C' dx' gs => C = C' ∧ dx = dx' ∧ RpF K G fs gs
  | .xd fs, .xd gs => RpF K G fs gs
  | .dK fs, .dK gs => RpK K G fs gs
  | .dT fs, .dT gs => RpK K G fs gs
  | .own x, .own y => x = y
  | _, _ => False
theorem Paired.imp2 {α β : Type} {R S : α → β → Prop} (h : ∀ a b, R a b → S a b) : ∀ {xs : List α} {ys : List β}, Paired R xs ys → Paired S xs ys
  | _, _, .nil => .nil
  | _, _, .cons r t => .cons (h _ _ r) (Paired.imp2 h t)
theorem RpK.mono {κ : Type} {K : PySem.W.Frag} {G G' : Hp} (e : Ex G G') {fs : List (κ × D)} {gs : List (κ × V)} (h : RpK K G fs gs) : RpK K G' fs gs := Paired.imp2 (fun _ _ r => ⟨r.1, r.2.mono e⟩) h
theorem RpO.mono {K : PySem.W.Frag} {G G' : Hp} (e : Ex G G') {o : DO} {u : HO} (h : RpO K G o u) : RpO K G' o u := by
  cases o <;> cases u <;> first | exact h.elim | skip
  · exact Rps.mono e h
  · exact ⟨h.1, h.2.1, Paired.imp2 (fun _ _ r => ⟨r.1, r.2.mono e⟩) h.2.2⟩
  · exact Paired.imp2 (fun _ _ r => ⟨r.1, r.2.mono e⟩) h
  · exact RpK.mono e h
  · exact RpK.mono e h
  · exact h
theorem rpo_lst {K : PySem.W.Frag} {G : Hp} {ds : List D} {u : HO} (h : RpO K G (.lst ds) u) : ∃ vs, u = .lst vs ∧ Rps K G ds vs := by
  cases u <;> first | exact h.elim | skip
  exact ⟨_, rfl, h⟩
theorem rpo_ins {K : PySem.W.Frag} {G : Hp} {C dx : Addr} {fs : List (Str × D)} {u : HO} (h : RpO K G (.ins C dx fs) u) : ∃ gs, u = .ins C dx gs ∧ RpF K G fs gs := by
  cases u <;> first | exact h.elim | skip
  obtain ⟨rfl, rfl, h⟩ := h
  exact ⟨_, rfl, h⟩
theorem rpo_xd {K : PySem.W.Frag} {G : Hp} {fs : List (Str × D)} {u : HO} (h : RpO K G (.xd fs) u) : ∃ gs, u = .xd gs ∧ RpF K G fs gs := by
  cases u <;> first | exact h.elim | skip
  exact ⟨_, rfl, h⟩
theorem rpo_dK {K : PySem.W.Frag} {G : Hp} {fs : List (Key × D)} {u : HO} (h : RpO K G (.dK fs) u) : ∃ gs, u = .dK gs ∧ RpK K G fs gs := by
  cases u <;> first | exact h.elim | skip
  exact ⟨_, rfl, h⟩
theorem rpo_dT {K : PySem.W.Frag} {G : Hp} {fs : List (List Key × D)} {u : HO} (h : RpO K G (.dT fs) u) : ∃ gs, u = .dT gs ∧ RpK K G fs gs := by
  cases u <;> first | exact h.elim | skip
  exact ⟨_, rfl, h⟩

/-- G: what is frozen; F: what others hold; h: what is owned -/
structure RH (K : PySem.W.Frag) (G F : Hp) (h : DH) (H : Hp) : Prop where
  ex : Ex G H
  fr : ∀ a o, F a = some o → G a = none ∧ h a = none ∧ H a = some o
  own : ∀ a o, h a = some o → G a = none ∧ ∃ u, H a = some u ∧ RpO K G o u
inductive RpM (K : PySem.W.Frag) (G : Hp) : Option D → Option V → Prop
  | some {d : D} {v : V} (h : Rp K G d v) : RpM K G (some d) (some v)
  | none {v : Option V} : RpM K G none v
abbrev Sl (K : PySem.W.Frag) (G : Hp) : DSt → L2.St → Prop := Paired (RpM K G)
theorem RpM.mono {K : PySem.W.Frag} {G G' : Hp} (e : Ex G G') {d : Option D} {v : Option V} : RpM K G d v → RpM K G' d v
  | .some h => .some (h.mono e)
  | .none => .none
theorem sl_mono {K : PySem.W.Frag} {G G' : Hp} (e : Ex G G') {δ : DSt} {σ : L2.St} (h : Sl K G δ σ) : Sl K G' δ σ := Paired.imp2 (fun _ _ r => r.mono e) h
theorem sl_get {K : PySem.W.Frag} {G : Hp} : ∀ {δ : DSt} {σ : L2.St} {i : Nat} {d : D}, Sl K G δ σ → δ[i]? = some (some d) → ∃ v, σ[i]? = some (some v) ∧ Rp K G d v
  | _, _, _, _, .nil, e => by simp at e
  | _, _, 0, _, .cons h _, e => by
    simp at e; subst e
    cases h with
    | some h => exact ⟨_, rfl, h⟩
  | _, _, i + 1, d, .cons _ r, e => by
    obtain ⟨v, h1, h2⟩ := sl_get (i := i) (d := d) r (by simpa using e)
    exact ⟨v, by simpa using h1, h2⟩
theorem sl_set {K : PySem.W.Frag} {G : Hp} {d : Option D} {v : Option V} (h : RpM K G d v) : ∀ {δ : DSt} {σ : L2.St} (i : Nat), Sl K G δ σ → Sl K G (δ.set i d) (σ.set i v)
  | _, _, _, .nil => .nil
  | _, _, 0, .cons _ r => .cons h r
  | _, _, i + 1, .cons q r => .cons q (sl_set h i r)

section
variable {K : PySem.W.Frag} {G G' F H H' : Hp} {h h' : DH}
/-- one more frozen thing -/
theorem RH.grow (r : RH K G F h H) {p : Addr} (hp : H p = none) (u : HO) : Ex G (upd G p u) ∧ RH K (upd G p u) F h (upd H p u) ∧ upd G p u p = some u ∧ G p = none ∧ h p = none ∧ F p = none := by
  have gp : G p = none := Evl.fresh_back r.ex hp
  have hh : h p = none := by
    cases e : h p with
    | none => rfl
    | some o =>
      obtain ⟨_, u', e2, _⟩ := r.own p o e
      rw [hp] at e2; cases e2
  have hf : F p = none := by
    cases e : F p with
    | none => rfl
    | some o =>
      obtain ⟨_, _, e2⟩ := r.fr p o e
      rw [hp] at e2; cases e2
  have ex : Ex G (upd G p u) := Ex.new gp
  refine ⟨ex, ⟨fun a o e => ?_, fun a o e => ?_, fun a o e => ?_⟩, upd_same, gp, hh, hf⟩
  · by_cases z : a = p
    · subst z; rw [upd_same] at e ⊢; exact e
    · rw [upd_ne z] at e ⊢; exact r.ex a o e
  · obtain ⟨e1, e2, e3⟩ := r.fr a o e
    have z : a ≠ p := ne_of_none e3 hp
    rw [upd_ne z, upd_ne z]; exact ⟨e1, e2, e3⟩
  · obtain ⟨e1, u', e2, e3⟩ := r.own a o e
    have z : a ≠ p := ne_of_none e2 hp
    rw [upd_ne z, upd_ne z]; exact ⟨e1, u', e2, e3.mono ex⟩
/-- one more owned thing -/
theorem RH.alloc (r : RH K G F h H) {p : Addr} (hp : H p = none) {o : DO} {u : HO} (ru : RpO K G o u) : h p = none ∧ RH K G F (dupd h p o) (upd H p u) := by
  obtain ⟨_, _, _, gp, hh, hf⟩ := r.grow hp u
  refine ⟨hh, ⟨fun a o e => ?_, fun a o e => ?_, fun a o e => ?_⟩⟩
  · rw [upd_ne (ne_of_none e gp)]; exact r.ex a o e
  · obtain ⟨e1, e2, e3⟩ := r.fr a o e
    have z : a ≠ p := ne_of_none e3 hp
    rw [upd_ne z, du_ne z]; exact ⟨e1, e2, e3⟩
  · by_cases z : a = p
    · subst z; rw [du_same] at e; cases e
      exact ⟨gp, u, upd_same, ru⟩
    · rw [du_ne z] at e
      rw [upd_ne z]; exact r.own a o e
/-- an owned thing is changed -/
theorem RH.write (r : RH K G F h H) {p : Addr} {o' : DO} (hp : h p = some o') {o : DO} {u : HO} (ru : RpO K G o u) : RH K G F (dupd h p o) (upd H p u) := by
  obtain ⟨gp, u0, _, _⟩ := r.own p o' hp
  refine ⟨fun a o e => ?_, fun a o e => ?_, fun a o e => ?_⟩
  · rw [upd_ne (ne_of_none e gp)]; exact r.ex a o e
  · obtain ⟨e1, e2, e3⟩ := r.fr a o e
    have z : a ≠ p := fun z => by subst z; rw [hp] at e2; cases e2
    rw [upd_ne z, du_ne z]; exact ⟨e1, e2, e3⟩
  · by_cases z : a = p
    · subst z; rw [du_same] at e; cases e
      exact ⟨gp, u, upd_same, ru⟩
    · rw [du_ne z] at e
      rw [upd_ne z]; exact r.own a o e
end

/-! ### what is wanted -/
def LV (K : PySem.W.Frag) (G F : Hp) (Q : DK) : VK := fun v H' => ∃ G' d h', Ex G G' ∧ RH K G' F h' H' ∧ Rp K G' d v ∧ Q d h'
def LB (K : PySem.W.Frag) (G F : Hp) (Q : Bool → DH → Prop) (b : Bool) (H' : Hp) : Prop := ∃ G' h', Ex G G' ∧ RH K G' F h' H' ∧ Q b h'
def LA (K : PySem.W.Frag) (G F : Hp) (Q : List D → DH → Prop) (vs : List V) (H' : Hp) : Prop := ∃ G' ds h', Ex G G' ∧ RH K G' F h' H' ∧ Rps K G' ds vs ∧ Q ds h'
def LS (K : PySem.W.Frag) (G F : Hp) (Q : DSt → DH → Prop) (σ' : L2.St) (H' : Hp) : Prop := ∃ G' δ' h', Ex G G' ∧ RH K G' F h' H' ∧ Sl K G' δ' σ' ∧ Q δ' h'

def dE (K : PySem.W.Frag) (te : TE) (δ : DSt) (h : DH) (Q : DK) : Prop := ∀ G F σ H, RH K G F h H → Sl K G δ σ → ∀ QV : VK, (∀ v H', LV K G F Q v H' → QV v H') → te σ H QV
def dT (K : PySem.W.Frag) (tt : TT) (δ : DSt) (h : DH) (Q : Bool → DH → Prop) : Prop := ∀ G F σ H, RH K G F h H → Sl K G δ σ → ∀ QV : Bool → Hp → Prop, (∀ b H', LB K G F Q b H' → QV b H') → tt σ H QV
def dA (K : PySem.W.Frag) (ta : TA) (δ : DSt) (h : DH) (Q : List D → DH → Prop) : Prop := ∀ G F σ H, RH K G F h H → Sl K G δ σ → ∀ QV : List V → Hp → Prop, (∀ vs H', LA K G F Q vs H' → QV vs H') → ta σ H QV
/-- by values -/
def dR (K : PySem.W.Frag) (r : R2) (x y : D) (h : DH) (Q : DK) : Prop := ∀ G F H vx vy, RH K G F h H → Rp K G x vx → Rp K G y vy → ∀ QV : VK, (∀ v H', LV K G F Q v H' → QV v H') → r vx vy H QV
def dU (K : PySem.W.Frag) (r : V → Hp → VK → Prop) (x : D) (h : DH) (Q : DK) : Prop := ∀ G F H vx, RH K G F h H → Rp K G x vx → ∀ QV : VK, (∀ v H', LV K G F Q v H' → QV v H') → r vx H QV
def dC (K : PySem.W.Frag) (r : List V → Hp → VK → Prop) (xs : List D) (h : DH) (Q : DK) : Prop := ∀ G F H vs, RH K G F h H → Rps K G xs vs → ∀ QV : VK, (∀ v H', LV K G F Q v H' → QV v H') → r vs H QV
def dM (K : PySem.W.Frag) (r : V → List V → Hp → VK → Prop) (x : D) (xs : List D) (h : DH) (Q : DK) : Prop := ∀ G F H vx vs, RH K G F h H → Rp K G x vx → Rps K G xs vs → ∀ QV : VK, (∀ v H', LV K G F Q v H' → QV v H') → r vx vs H QV
def dG (K : PySem.W.Frag) (g : TG) (x : D) (δ : DSt) (h : DH) (Q : DSt → DH → Prop) : Prop := ∀ G F σ H vx, RH K G F h H → Sl K G δ σ → Rp K G x vx → ∀ QV : L2.St → Hp → Prop, (∀ σ' H', LS K G F Q σ' H' → QV σ' H') → g vx σ H QV
def dGs (K : PySem.W.Frag) (g : TGs) (xs : List D) (δ : DSt) (h : DH) (Q : DSt → DH → Prop) : Prop := ∀ G F σ H vs, RH K G F h H → Sl K G δ σ → Rps K G xs vs → ∀ QV : L2.St → Hp → Prop, (∀ σ' H', LS K G F Q σ' H' → QV σ' H') → g vs σ H QV
structure DEnds where
  nx : DSt → DH → Prop
  rt : DK
  bk : DSt → DH → Prop
  ct : DSt → DH → Prop
def LD (K : PySem.W.Frag) (G F : Hp) (E : DEnds) (Z : Ends) : Prop :=
  (∀ σ' H', LS K G F E.nx σ' H' → Z.nx σ' H') ∧ (∀ v H', LV K G F E.rt v H' → Z.rt v H') ∧ (∀ σ' H', LS K G F E.bk σ' H' → Z.bk σ' H') ∧ (∀ σ' H', LS K G F E.ct σ' H' → Z.ct σ' H')
def dS0 (K : PySem.W.Frag) (ts : TS) (E : DEnds) (δ : DSt) (h : DH) : Prop := ∀ G F σ H, RH K G F h H → Sl K G δ σ → ∀ Z : Ends, LD K G F E Z → ts Z σ H
abbrev DP := DSt → DH → Prop
/-- a statement: what follows, what is handed back, behind a break, behind a continue -/
def dS (K : PySem.W.Frag) (ts : TS) (nx : DP) (rt : DK) (bk ct : DP) (δ : DSt) (h : DH) : Prop := dS0 K ts ⟨nx, rt, bk, ct⟩ δ h
end DL
set_option maxHeartbeats 2000000
/-! DL: the rules. -/
namespace DL
open PySem L2
open Evl (Ex)
section
variable {K : PySem.W.Frag} {G G' F H H' : Hp} {h h' : DH} {Q : DK} {δ : DSt} {d x y z : D} {ds xs : List D} {ta tb tc te tl : TE} {t u c : TT} {E : DEnds} {ts tu tw : TS} {a p : Addr} {i : Nat} {r r' : R2}

theorem LV.up (e : Ex G G') {v : V} (l : LV K G' F Q v H) : LV K G F Q v H := by
  obtain ⟨G2, d, h2, e2, q⟩ := l
  exact ⟨G2, d, h2, e.trans e2, q⟩
theorem LB.up {Q : Bool → DH → Prop} (e : Ex G G') {v : Bool} (l : LB K G' F Q v H) : LB K G F Q v H := by
  obtain ⟨G2, h2, e2, q⟩ := l
  exact ⟨G2, h2, e.trans e2, q⟩
theorem LA.up {Q : List D → DH → Prop} (e : Ex G G') {v : List V} (l : LA K G' F Q v H) : LA K G F Q v H := by
  obtain ⟨G2, d, h2, e2, q⟩ := l
  exact ⟨G2, d, h2, e.trans e2, q⟩
theorem LS.up {Q : DSt → DH → Prop} (e : Ex G G') {v : L2.St} (l : LS K G' F Q v H) : LS K G F Q v H := by
  obtain ⟨G2, d, h2, e2, q⟩ := l
  exact ⟨G2, d, h2, e.trans e2, q⟩
theorem LD.up (e : Ex G G') {Z : Ends} (l : LD K G F E Z) : LD K G' F E Z :=
  ⟨fun s H q => l.1 s H (q.up e), fun s H q => l.2.1 s H (q.up e), fun s H q => l.2.2.1 s H (q.up e), fun s H q => l.2.2.2 s H (q.up e)⟩
/-- a value, nothing else new -/
theorem LV.of (r : RH K G F h H) {v : V} (rv : Rp K G d v) (q : Q d h) : LV K G F Q v H := ⟨G, d, h, Ex.refl G, r, rv, q⟩

/-! ### expressions -/
theorem e_var (e : δ[i]? = some (some d)) (q : Q d h) : dE K (tVar i) δ h Q := fun G F σ H r s QV k => by
  obtain ⟨v, h1, h2⟩ := sl_get s e
  exact ⟨v, h1, k v H (.of r h2 q)⟩
theorem e_c {v : V} (e : ∀ G, Rp K G d v) (q : Q d h) : dE K (tC v) δ h Q := fun G F σ H r s QV k => k v H (.of r (e G) q)
theorem e_int {n : Int} (q : Q (.int n) h) : dE K (tC (.int n)) δ h Q := e_c (fun _ => .int n) q
theorem e_bl {n : Bool} (q : Q (.bl n) h) : dE K (tC (.bl n)) δ h Q := e_c (fun _ => .bl n) q
theorem e_non (q : Q .non h) : dE K (tC .non) δ h Q := e_c (fun _ => .non) q
theorem e_str {n : Str} (q : Q (.str n) h) : dE K (tC (.str n)) δ h Q := e_c (fun _ => .str n) q
theorem e_ty {n : String} (q : Q (.ty n) h) : dE K (tC (.ty n)) δ h Q := e_c (fun _ => .ty n) q
theorem e_op (ha : dE K ta δ h (fun x h1 => dE K tb δ h1 (fun y h2 => dR K r x y h2 Q))) : dE K (tOp r ta tb) δ h Q := fun G F σ H rh sl QV k => by
  refine ha G F σ H rh sl _ ?_
  rintro v H1 ⟨G1, d, h1, e1, rh1, rv, q⟩
  refine q G1 F σ H1 rh1 (sl_mono e1 sl) _ ?_
  rintro w H2 ⟨G2, d2, h2, e2, rh2, rw, q2⟩
  exact q2 G2 F H2 v w rh2 (rv.mono e2) rw QV fun z H3 l => k z H3 (l.up (e1.trans e2))
theorem e_un {r : V → Hp → VK → Prop} (ha : dE K ta δ h (fun x h1 => dU K r x h1 Q)) : dE K (tUn r ta) δ h Q := fun G F σ H rh sl QV k => by
  refine ha G F σ H rh sl _ ?_
  rintro v H1 ⟨G1, d, h1, e1, rh1, rv, q⟩
  exact q G1 F H1 v rh1 rv QV fun z H3 l => k z H3 (l.up e1)
theorem e_then {r : V → Hp → VK → Prop} (ha : dE K ta δ h (fun x h1 => dU K r x h1 Q)) : dE K (tThen ta r) δ h Q := e_un (r := r) ha
theorem a_nil {Q : List D → DH → Prop} (q : Q [] h) : dA K tNil δ h Q := fun G F σ H rh sl QV k => k [] H ⟨G, [], h, Ex.refl G, rh, .nil, q⟩
theorem a_cons {tr : TA} {Q : List D → DH → Prop} (ha : dE K ta δ h (fun x h1 => dA K tr δ h1 (fun xs h2 => Q (x :: xs) h2))) : dA K (tCons ta tr) δ h Q := fun G F σ H rh sl QV k => by
  refine ha G F σ H rh sl _ ?_
  rintro v H1 ⟨G1, d, h1, e1, rh1, rv, q⟩
  refine q G1 F σ H1 rh1 (sl_mono e1 sl) _ ?_
  rintro w H2 ⟨G2, d2, h2, e2, rh2, rw, q2⟩
  exact k _ H2 ⟨G2, _, h2, e1.trans e2, rh2, .cons (rv.mono e2) rw, q2⟩
/-- a new tuple -/
theorem e_tup {ta : TA} (ha : dA K ta δ h (fun xs h1 => xs.length ≤ 100000 ∧ Q (.tup xs) h1)) : dE K (tTup ta) δ h Q := fun G F σ H rh sl QV k => by
  refine ha G F σ H rh sl _ ?_
  rintro vs H1 ⟨G1, ds, h1, e1, rh1, rv, hl, q⟩
  refine ⟨Evl.sz_of (by rw [← rv.length]; exact hl), fun p hp => ?_⟩
  obtain ⟨ex, rh2, gp, _⟩ := rh1.grow hp (.tup vs)
  exact k _ _ ⟨_, .tup ds, h1, e1.trans ex, rh2, .tup (Or.inl (Or.inl gp)) (rv.mono ex), q⟩
/-- a new list, owned -/
theorem e_lst {ta : TA} (ha : dA K ta δ h (fun xs h1 => xs.length ≤ 100000 ∧ ∀ p, h1 p = none → Q (.ref p) (dupd h1 p (.lst xs)))) : dE K (tLst ta) δ h Q := fun G F σ H rh sl QV k => by
  refine ha G F σ H rh sl _ ?_
  rintro vs H1 ⟨G1, ds, h1, e1, rh1, rv, hl, q⟩
  refine ⟨Evl.sz_of (by rw [← rv.length]; exact hl), fun p hp => ?_⟩
  obtain ⟨hh, rh2⟩ := rh1.alloc hp (o := .lst ds) (u := .lst vs) rv
  exact k _ _ ⟨_, .ref p, _, e1, rh2, .ref p, q p hh⟩
/-- a new list, frozen -/
theorem e_lstF {ta : TA} (ha : dA K ta δ h (fun xs h1 => xs.length ≤ 100000 ∧ Q (.lst xs) h1)) : dE K (tLst ta) δ h Q := fun G F σ H rh sl QV k => by
  refine ha G F σ H rh sl _ ?_
  rintro vs H1 ⟨G1, ds, h1, e1, rh1, rv, hl, q⟩
  refine ⟨Evl.sz_of (by rw [← rv.length]; exact hl), fun p hp => ?_⟩
  obtain ⟨ex, rh2, gp, _⟩ := rh1.grow hp (.lst vs)
  exact k _ _ ⟨_, .lst ds, h1, e1.trans ex, rh2, .lst gp (rv.mono ex), q⟩
/-- what a call tells as an owned list is frozen -/
def derase (h : DH) (a : Addr) : DH := fun b => if b = a then none else h b
theorem de_dupd {h : DH} {a : Addr} {o : DO} (e : h a = none) : derase (dupd h a o) a = h := by
  funext b; unfold derase dupd
  by_cases z : b = a
  · subst z; rw [if_pos rfl, e]
  · rw [if_neg z, if_neg z]
theorem RH.freeze (r : RH K G F h H) (e : h a = some (.lst ds)) : ∃ vs, Ex G (upd G a (.lst vs)) ∧ RH K (upd G a (.lst vs)) F (derase h a) H ∧ Rp K (upd G a (.lst vs)) (.lst ds) (.ref a) := by
  obtain ⟨ga, u, hu, ru⟩ := r.own a _ e
  obtain ⟨vs, rfl, rv⟩ := rpo_lst ru
  have ex : Ex G (upd G a (.lst vs)) := Ex.new ga
  refine ⟨vs, ex, ⟨fun b o q => ?_, fun b o q => ?_, fun b o q => ?_⟩, .lst upd_same (rv.mono ex)⟩
  · by_cases z : b = a
    · subst z; rw [upd_same] at q; cases q; exact hu
    · rw [upd_ne z] at q; exact r.ex b o q
  · obtain ⟨e1, e2, e3⟩ := r.fr b o q
    have z : b ≠ a := fun z => by subst z; rw [e] at e2; cases e2
    refine ⟨by rw [upd_ne z]; exact e1, ?_, e3⟩
    unfold derase; rw [if_neg z]; exact e2
  · unfold derase at q
    by_cases z : b = a
    · rw [if_pos z] at q; cases q
    · rw [if_neg z] at q
      obtain ⟨e1, u, e2, e3⟩ := r.own b o q
      exact ⟨by rw [upd_ne z]; exact e1, u, e2, e3.mono ex⟩
theorem e_frz (ha : dE K te δ h (fun d h1 => ∃ a ds, d = .ref a ∧ h1 a = some (.lst ds) ∧ Q (.lst ds) (derase h1 a))) : dE K te δ h Q := fun G F σ H rh sl QV k => by
  refine ha G F σ H rh sl _ ?_
  rintro v H1 ⟨G1, d, h1, e1, rh1, rv, a, ds, rfl, e2, q⟩
  cases rv
  obtain ⟨vs, ex, rh2, r2⟩ := rh1.freeze e2
  exact k _ _ ⟨_, _, _, e1.trans ex, rh2, r2, q⟩
theorem e_mono {Q' : DK} (ha : dE K te δ h Q') (hq : ∀ d h1, Q' d h1 → Q d h1) : dE K te δ h Q := fun G F σ H rh sl QV k => by
  refine ha G F σ H rh sl _ ?_
  rintro v H1 ⟨G1, d, h1, e1, rh1, rv, q⟩
  exact k _ _ ⟨G1, d, h1, e1, rh1, rv, hq _ _ q⟩
theorem e_cb {r : List V → Hp → VK → Prop} {ta : TA} (ha : dA K ta δ h (fun xs h1 => dC K r xs h1 Q)) : dE K (tCB r ta) δ h Q := fun G F σ H rh sl QV k => by
  refine ha G F σ H rh sl _ ?_
  rintro vs H1 ⟨G1, ds, h1, e1, rh1, rv, q⟩
  exact q G1 F H1 vs rh1 rv QV fun z H3 l => k z H3 (l.up e1)
theorem e_if (hc : dT K t δ h (fun b h1 => (b = true → dE K ta δ h1 Q) ∧ (b = false → dE K tb δ h1 Q))) : dE K (tIf t ta tb) δ h Q := fun G F σ H rh sl QV k => by
  refine hc G F σ H rh sl _ ?_
  rintro b H1 ⟨G1, h1, e1, rh1, q1, q2⟩
  cases b with
  | true => rw [if_pos rfl]; exact q1 rfl G1 F σ H1 rh1 (sl_mono e1 sl) QV fun z H3 l => k z H3 (l.up e1)
  | false => rw [if_neg Bool.false_ne_true]; exact q2 rfl G1 F σ H1 rh1 (sl_mono e1 sl) QV fun z H3 l => k z H3 (l.up e1)
theorem e_andV (ha : dE K ta δ h (fun x h1 => ∃ b, x = .bl b ∧ (b = true → dE K tb δ h1 Q) ∧ (b = false → Q (.bl false) h1))) : dE K (tAndV ta tb) δ h Q := fun G F σ H rh sl QV k => by
  refine ha G F σ H rh sl _ ?_
  rintro v H1 ⟨G1, d, h1, e1, rh1, rv, b, rfl, q1, q2⟩
  cases rv
  refine ⟨b, rfl, ?_⟩
  cases b with
  | true => rw [if_pos rfl]; exact q1 rfl G1 F σ H1 rh1 (sl_mono e1 sl) QV fun z H3 l => k z H3 (l.up e1)
  | false => rw [if_neg Bool.false_ne_true]; exact k _ _ (LV.up e1 (.of rh1 (.bl false) (q2 rfl)))
theorem e_orV (ha : dE K ta δ h (fun x h1 => ∃ b, x = .bl b ∧ (b = false → dE K tb δ h1 Q) ∧ (b = true → Q (.bl true) h1))) : dE K (tOrV ta tb) δ h Q := fun G F σ H rh sl QV k => by
  refine ha G F σ H rh sl _ ?_
  rintro v H1 ⟨G1, d, h1, e1, rh1, rv, b, rfl, q1, q2⟩
  cases rv
  refine ⟨b, rfl, ?_⟩
  cases b with
  | false => rw [if_neg Bool.false_ne_true]; exact q1 rfl G1 F σ H1 rh1 (sl_mono e1 sl) QV fun z H3 l => k z H3 (l.up e1)
  | true => rw [if_pos rfl]; exact k _ _ (LV.up e1 (.of rh1 (.bl true) (q2 rfl)))
theorem e_notV (ha : dE K ta δ h (fun x h1 => ∃ b, x = .bl b ∧ Q (.bl (!b)) h1)) : dE K (tNotV ta) δ h Q := fun G F σ H rh sl QV k => by
  refine ha G F σ H rh sl _ ?_
  rintro v H1 ⟨G1, d, h1, e1, rh1, rv, b, rfl, q1⟩
  cases rv
  exact ⟨b, rfl, k _ _ (LV.up e1 (.of rh1 (.bl _) q1))⟩
theorem e_chain (ha : dE K ta δ h (fun x h1 => dE K tb δ h1 (fun y h2 => dR K r x y h2 (fun v h3 => ∃ b, v = .bl b ∧ (b = true → dE K tc δ h3 (fun z h4 => dR K r' y z h4 Q)) ∧ (b = false → Q (.bl false) h3))))) : dE K (tChain r r' ta tb tc) δ h Q := fun G F σ H rh sl QV k => by
  refine ha G F σ H rh sl _ ?_
  rintro v H1 ⟨G1, d, h1, e1, rh1, rv, q⟩
  refine q G1 F σ H1 rh1 (sl_mono e1 sl) _ ?_
  rintro w H2 ⟨G2, d2, h2, e2, rh2, rw, q2⟩
  refine q2 G2 F H2 v w rh2 (rv.mono e2) rw _ ?_
  rintro z H3 ⟨G3, d3, h3, e3, rh3, rz, b, rfl, q3, q4⟩
  cases rz
  refine ⟨b, rfl, ?_⟩
  cases b with
  | true =>
    rw [if_pos rfl]
    refine q3 rfl G3 F σ H3 rh3 (sl_mono (e1.trans (e2.trans e3)) sl) _ ?_
    rintro z4 H4 ⟨G4, d4, h4, e4, rh4, rz4, q5⟩
    exact q5 G4 F H4 w z4 rh4 (rw.mono (e3.trans e4)) rz4 QV fun z H3 l => k z H3 (l.up ((e1.trans (e2.trans e3)).trans e4))
  | false => rw [if_neg Bool.false_ne_true]; exact k _ _ (LV.up (e1.trans (e2.trans e3)) (.of rh3 (.bl false) (q4 rfl)))

/-! ### tests -/
theorem t_test {Q : Bool → DH → Prop} (ha : dE K ta δ h (fun x h1 => ∃ b, x = .bl b ∧ Q b h1)) : dT K (tTest ta) δ h Q := fun G F σ H rh sl QV k => by
  refine ha G F σ H rh sl _ ?_
  rintro v H1 ⟨G1, d, h1, e1, rh1, rv, b, rfl, q1⟩
  cases rv
  exact ⟨b, rfl, k _ _ ⟨G1, h1, e1, rh1, q1⟩⟩
theorem t_b {Q : Bool → DH → Prop} (ha : dE K ta δ h (fun x h1 => ∃ b, x = .bl b ∧ Q b h1)) : dT K (tB ta) δ h Q := fun G F σ H rh sl QV k => by
  refine ha G F σ H rh sl _ ?_
  rintro v H1 ⟨G1, d, h1, e1, rh1, rv, b, rfl, q1⟩
  cases rv
  exact ⟨b, rfl, k _ _ ⟨G1, h1, e1, rh1, q1⟩⟩
theorem t_and {Q : Bool → DH → Prop} (ha : dT K t δ h (fun b h1 => (b = true → dT K u δ h1 Q) ∧ (b = false → Q false h1))) : dT K (tAnd t u) δ h Q := fun G F σ H rh sl QV k => by
  refine ha G F σ H rh sl _ ?_
  rintro b H1 ⟨G1, h1, e1, rh1, q1, q2⟩
  cases b with
  | true => rw [if_pos rfl]; exact q1 rfl G1 F σ H1 rh1 (sl_mono e1 sl) QV fun z H3 l => k z H3 (l.up e1)
  | false => rw [if_neg Bool.false_ne_true]; exact k _ _ ⟨G1, h1, e1, rh1, q2 rfl⟩
theorem t_or {Q : Bool → DH → Prop} (ha : dT K t δ h (fun b h1 => (b = false → dT K u δ h1 Q) ∧ (b = true → Q true h1))) : dT K (tOr t u) δ h Q := fun G F σ H rh sl QV k => by
  refine ha G F σ H rh sl _ ?_
  rintro b H1 ⟨G1, h1, e1, rh1, q1, q2⟩
  cases b with
  | false => rw [if_neg Bool.false_ne_true]; exact q1 rfl G1 F σ H1 rh1 (sl_mono e1 sl) QV fun z H3 l => k z H3 (l.up e1)
  | true => rw [if_pos rfl]; exact k _ _ ⟨G1, h1, e1, rh1, q2 rfl⟩
theorem t_not {Q : Bool → DH → Prop} (ha : dT K t δ h (fun b h1 => Q (!b) h1)) : dT K (tNot t) δ h Q := fun G F σ H rh sl QV k => by
  refine ha G F σ H rh sl _ ?_
  rintro b H1 ⟨G1, h1, e1, rh1, q1⟩
  exact k _ _ ⟨G1, h1, e1, rh1, q1⟩
theorem t_mono {Q Q' : Bool → DH → Prop} (ha : dT K t δ h Q') (hq : ∀ d h1, Q' d h1 → Q d h1) : dT K t δ h Q := fun G F σ H rh sl QV k => by
  refine ha G F σ H rh sl _ ?_
  rintro v H1 ⟨G1, h1, e1, rh1, q⟩
  exact k _ _ ⟨G1, h1, e1, rh1, hq _ _ q⟩
/-- no test at all -/
theorem t_yes {Q : Bool → DH → Prop} (q : Q true h) : dT K tYes δ h Q := fun G F σ H rh sl QV k => k _ _ ⟨G, h, Ex.refl G, rh, q⟩

/-! ### by values -/
theorem r_I0 {g : Int → Int → V} {n m : Int} (e : ∀ G, Rp K G d (g n m)) (q : Q d h) : dR K (rI0 g) (.int n) (.int m) h Q := fun G F H vx vy rh rx ry QV k => by
  cases rx; cases ry
  exact ⟨n, m, rfl, rfl, k _ _ (.of rh (e G) q)⟩
theorem r_I {C : Int → Int → Prop} {g : Int → Int → V} {n m : Int} (e : ∀ G, Rp K G d (g n m)) (hc : C n m) (q : Q d h) : dR K (rI C g) (.int n) (.int m) h Q := fun G F H vx vy rh rx ry QV k => by
  cases rx; cases ry
  exact ⟨n, m, rfl, rfl, hc, k _ _ (.of rh (e G) q)⟩
theorem r_eqI {n m : Int} (q : Q (.bl (decide (n = m))) h) : dR K rEq (.int n) (.int m) h Q := fun G F H vx vy rh rx ry QV k => by
  cases rx; cases ry
  have e : decide (V.int n = V.int m) = decide (n = m) := by simp
  exact ⟨rfl, by rw [e]; exact k _ _ (.of rh (.bl _) q)⟩
theorem r_neI {n m : Int} (q : Q (.bl (!decide (n = m))) h) : dR K rNe (.int n) (.int m) h Q := fun G F H vx vy rh rx ry QV k => by
  cases rx; cases ry
  have e : decide (V.int n = V.int m) = decide (n = m) := by simp
  exact ⟨rfl, by rw [e]; exact k _ _ (.of rh (.bl _) q)⟩
theorem r_eqS {n m : Str} (q : Q (.bl (decide (n = m))) h) : dR K rEq (.str n) (.str m) h Q := fun G F H vx vy rh rx ry QV k => by
  cases rx; cases ry
  have e : decide (V.str n = V.str m) = decide (n = m) := by simp
  exact ⟨rfl, by rw [e]; exact k _ _ (.of rh (.bl _) q)⟩
theorem r_neS {n m : Str} (q : Q (.bl (!decide (n = m))) h) : dR K rNe (.str n) (.str m) h Q := fun G F H vx vy rh rx ry QV k => by
  cases rx; cases ry
  have e : decide (V.str n = V.str m) = decide (n = m) := by simp
  exact ⟨rfl, by rw [e]; exact k _ _ (.of rh (.bl _) q)⟩
def isNon : D → Bool
  | .non => true
  | _ => false
theorem isNon_rp {d : D} {v : V} (r : Rp K G d v) : decide (v = .non) = isNon d := by
  cases r <;> simp [isNon]
theorem r_isN (q : Q (.bl (isNon x)) h) : dR K rIsN x .non h Q := fun G F H vx vy rh rx ry QV k => by
  cases ry
  exact ⟨rfl, by rw [isNon_rp rx]; exact k _ _ (.of rh (.bl _) q)⟩
theorem r_notN (q : Q (.bl (!isNon x)) h) : dR K rNotN x .non h Q := fun G F H vx vy rh rx ry QV k => by
  cases ry
  exact ⟨rfl, by rw [isNon_rp rx]; exact k _ _ (.of rh (.bl _) q)⟩
theorem u_neg {n : Int} {g : Int → V} (e : ∀ G, Rp K G d (g n)) (q : Q d h) : dU K (rU g) (.int n) h Q := fun G F H vx rh rx QV k => by
  cases rx
  exact ⟨n, rfl, k _ _ (.of rh (e G) q)⟩
/-- what may be read as a list of ds, a tuple of ds -/
inductive IsL (h : DH) : D → List D → Prop
  | frz (ds : List D) : IsL h (.lst ds) ds
  | rd (ds : List D) : IsL h (.rd ds) ds
  | own {a : Addr} {ds : List D} (e : h a = some (.lst ds)) : IsL h (.ref a) ds
theorem IsL.of (l : IsL h x ds) (rh : RH K G F h H) {v : V} (r : Rp K G x v) : ∃ p vs, v = .ref p ∧ SqL K H p vs ∧ Rps K G ds vs := by
  cases l with
  | frz =>
    cases r with
    | lst hs r => exact ⟨_, _, rfl, Or.inl (Or.inl (rh.ex _ _ hs)), r⟩
  | rd =>
    cases r with
    | rd hs r => exact ⟨_, _, rfl, Evl.ex_l rh.ex hs, r⟩
  | own e =>
    cases r
    obtain ⟨_, u, e2, e3⟩ := rh.own _ _ e
    obtain ⟨vs, rfl, rv⟩ := rpo_lst e3
    exact ⟨_, vs, rfl, Or.inl (Or.inl e2), rv⟩
theorem tup_of (rh : RH K G F h H) {v : V} (r : Rp K G (.tup ds) v) : ∃ p vs, v = .ref p ∧ SqT K H p vs ∧ Rps K G ds vs := by
  cases r with
  | tup hs r => exact ⟨_, _, rfl, Evl.ex_t rh.ex hs, r⟩
theorem r_ixL {n : Int} (l : IsL h x ds) (e : atI ds n = some d) (q : Q d h) : dR K (rIxL K) x (.int n) h Q := fun G F H vx vy rh rx ry QV k => by
  obtain ⟨p, vs, rfl, hs, r⟩ := l.of rh rx
  cases ry
  obtain ⟨v, e2, rv⟩ := r.at e
  exact ⟨p, vs, n, v, rfl, rfl, hs, e2, k _ _ (.of rh rv q)⟩
theorem r_ixT {n : Int} (e : atI ds n = some d) (q : Q d h) : dR K (rIxT K) (.tup ds) (.int n) h Q := fun G F H vx vy rh rx ry QV k => by
  obtain ⟨p, vs, rfl, hs, r⟩ := tup_of rh rx
  cases ry
  obtain ⟨v, e2, rv⟩ := r.at e
  exact ⟨p, vs, n, v, rfl, rfl, hs, e2, k _ _ (.of rh rv q)⟩
/-- a list or a tuple -/
inductive IsS (h : DH) : D → List D → Prop
  | lst {x : D} {ds : List D} (l : IsL h x ds) : IsS h x ds
  | tup (ds : List D) : IsS h (.tup ds) ds
theorem IsS.of (l : IsS h x ds) (rh : RH K G F h H) {v : V} (r : Rp K G x v) : ∃ p vs, v = .ref p ∧ (SqL K H p vs ∨ SqT K H p vs) ∧ Rps K G ds vs := by
  cases l with
  | lst l =>
    obtain ⟨p, vs, e, h1, h2⟩ := l.of rh r
    exact ⟨p, vs, e, .inl h1, h2⟩
  | tup =>
    obtain ⟨p, vs, e, h1, h2⟩ := tup_of rh r
    exact ⟨p, vs, e, .inr h1, h2⟩
theorem r_ix {n : Int} (l : IsS h x ds) (e : atI ds n = some d) (q : Q d h) : dR K (rIx K) x (.int n) h Q := by
  cases l with
  | lst l => exact fun G F H vx vy rh rx ry QV k => Or.inl (r_ixL l e q G F H vx vy rh rx ry QV k)
  | tup => exact fun G F H vx vy rh rx ry QV k => Or.inr (Or.inl (r_ixT e q G F H vx vy rh rx ry QV k))
theorem r_or1 (hr : dR K r x y h Q) : dR K (fun x y H Q => r x y H Q ∨ r' x y H Q) x y h Q := fun G F H vx vy rh rx ry QV k => Or.inl (hr G F H vx vy rh rx ry QV k)
theorem r_or2 (hr : dR K r' x y h Q) : dR K (fun x y H Q => r x y H Q ∨ r' x y H Q) x y h Q := fun G F H vx vy rh rx ry QV k => Or.inr (hr G F H vx vy rh rx ry QV k)
/-- len -/
theorem c_len (l : IsS h x ds) (q : Q (.int (ds.length : Int)) h) : dC K (Evl.rLenS K) [x] h Q := fun G F H vs rh rs QV k => by
  cases rs with
  | cons r0 r1 =>
    cases r1
    obtain ⟨p, ws, rfl, h1, h2⟩ := l.of rh r0
    exact ⟨p, ws, rfl, h1, by rw [← h2.length]; exact k _ _ (.of rh (.int _) q)⟩
theorem c_abs {n : Int} (q : Q (.int (if n < 0 then -n else n)) h) : dC K (fun xs H Q => ∃ i, xs = [.int i] ∧ Q (.int (if i < 0 then -i else i)) H) [.int n] h Q := fun G F H vs rh rs QV k => by
  cases rs with
  | cons r0 r1 =>
    cases r1; cases r0
    exact ⟨n, rfl, k _ _ (.of rh (.int _) q)⟩
theorem c_max2 {n m : Int} (q : Q (.int (if m > n then m else n)) h) : dC K (fun xs H Q => ∃ i j, xs = [.int i, .int j] ∧ Q (.int (if j > i then j else i)) H) [.int n, .int m] h Q := fun G F H vs rh rs QV k => by
  cases rs with
  | cons r0 r1 =>
    cases r1 with
    | cons r1 r2 =>
      cases r2; cases r0; cases r1
      exact ⟨n, m, rfl, k _ _ (.of rh (.int _) q)⟩
theorem c_min2 {n m : Int} (q : Q (.int (if m < n then m else n)) h) : dC K (fun xs H Q => ∃ i j, xs = [.int i, .int j] ∧ Q (.int (if j < i then j else i)) H) [.int n, .int m] h Q := fun G F H vs rh rs QV k => by
  cases rs with
  | cons r0 r1 =>
    cases r1 with
    | cons r1 r2 =>
      cases r2; cases r0; cases r1
      exact ⟨n, m, rfl, k _ _ (.of rh (.int _) q)⟩
def r_int1 : List V → Hp → VK → Prop := fun xs H Q => (∃ i, xs = [.int i] ∧ Q (.int i) H) ∨ ∃ k, xs = [.bl k] ∧ Q (.int (if k then 1 else 0)) H
theorem call_int1' {X : Cx} : CallR X (.type "int") r_int1 := call_int1
theorem c_intB {b : Bool} (q : Q (.int (if b then 1 else 0)) h) : dC K r_int1 [.bl b] h Q := fun G F H vs rh rs QV k => by
  cases rs with
  | cons r0 r1 =>
    cases r1; cases r0
    exact Or.inr ⟨b, rfl, k _ _ (.of rh (.int _) q)⟩
theorem c_all {bs : List Bool} (l : IsL h x (bs.map D.bl)) (q : Q (.bl (bs.all id)) h) : dC K (rAll K) [x] h Q := fun G F H vs rh rs QV k => by
  cases rs with
  | cons r0 r1 =>
    cases r1
    obtain ⟨p, ws, rfl, h1, h2⟩ := l.of rh r0
    have e := h2.bls
    subst e
    exact ⟨p, bs, rfl, h1, k _ _ (.of rh (.bl _) q)⟩
theorem c_any {bs : List Bool} (l : IsL h x (bs.map D.bl)) (q : Q (.bl (bs.any id)) h) : dC K (rAny K) [x] h Q := fun G F H vs rh rs QV k => by
  cases rs with
  | cons r0 r1 =>
    cases r1
    obtain ⟨p, ws, rfl, h1, h2⟩ := l.of rh r0
    have e := h2.bls
    subst e
    exact ⟨p, bs, rfl, h1, k _ _ (.of rh (.bl _) q)⟩
/-- tuple(x) -/
theorem u_tuple (l : IsS h x ds) (q : Q (.tup ds) h) : dU K (kTup K) x h Q := fun G F H vx rh rx QV k => by
  cases l with
  | tup =>
    cases rx with
    | tup hs r => exact Or.inr ⟨_, _, rfl, Evl.ex_t rh.ex hs, k _ _ (.of rh (.tup hs r) q)⟩
  | lst l =>
    obtain ⟨p, ws, rfl, h1, h2⟩ := l.of rh rx
    refine Or.inl ⟨p, ws, rfl, h1, fun p' hp => ?_⟩
    obtain ⟨ex, rh2, gp, _⟩ := rh.grow hp (.tup ws)
    exact k _ _ ⟨_, _, h, ex, rh2, .tup (Or.inl (Or.inl gp)) (h2.mono ex), q⟩
/-- list(x), owned; frozen -/
theorem c_list (l : IsS h x ds) (q : ∀ p, h p = none → Q (.ref p) (dupd h p (.lst ds))) : dC K (Evl.rListS K) [x] h Q := fun G F H vs rh rs QV k => by
  cases rs with
  | cons r0 r1 =>
    cases r1
    obtain ⟨p, ws, rfl, h1, h2⟩ := l.of rh r0
    refine ⟨p, ws, rfl, h1, fun p' hp => ?_⟩
    obtain ⟨hh, rh2⟩ := rh.alloc hp (o := .lst ds) (u := .lst ws) h2
    exact k _ _ ⟨_, _, _, Ex.refl G, rh2, .ref p', q p' hh⟩
theorem c_listF (l : IsS h x ds) (q : Q (.lst ds) h) : dC K (Evl.rListS K) [x] h Q := fun G F H vs rh rs QV k => by
  cases rs with
  | cons r0 r1 =>
    cases r1
    obtain ⟨p, ws, rfl, h1, h2⟩ := l.of rh r0
    refine ⟨p, ws, rfl, h1, fun p' hp => ?_⟩
    obtain ⟨ex, rh2, gp, _⟩ := rh.grow hp (.lst ws)
    exact k _ _ ⟨_, _, h, ex, rh2, .lst gp (h2.mono ex), q⟩

/-! ### targets -/
theorem g_name {Q : DSt → DH → Prop} (q : Q (δ.set i (some d)) h) : dG K (gName i) d δ h Q := fun G F σ H v rh sl rv QV k =>
  k _ _ ⟨G, _, h, Ex.refl G, rh, sl_set (.some rv) i sl, q⟩
theorem g_nil {Q : DSt → DH → Prop} (q : Q δ h) : dGs K gNil [] δ h Q := fun G F σ H vs rh sl rv QV k => by
  cases rv
  exact ⟨rfl, k _ _ ⟨G, _, h, Ex.refl G, rh, sl, q⟩⟩
theorem g_cons {g : TG} {gs : TGs} {Q : DSt → DH → Prop} (hg : dG K g d δ h (fun δ1 h1 => dGs K gs ds δ1 h1 Q)) : dGs K (gCons g gs) (d :: ds) δ h Q := fun G F σ H vs rh sl rv QV k => by
  cases rv with
  | cons r0 r1 =>
    refine ⟨_, _, rfl, hg G F σ H _ rh sl r0 _ ?_⟩
    rintro σ1 H1 ⟨G1, δ1, h1, e1, rh1, sl1, q1⟩
    exact q1 G1 F σ1 H1 _ rh1 sl1 (r1.mono e1) QV fun s H2 l => k s H2 (l.up e1)
theorem g_tup {gs : TGs} {n : Nat} {Q : DSt → DH → Prop} (hn : ds.length = n) (hg : dGs K gs ds δ h Q) : dG K (gTup K n gs) (.tup ds) δ h Q := fun G F σ H v rh sl rv QV k => by
  obtain ⟨p, vs, rfl, hs, r⟩ := tup_of rh rv
  exact ⟨p, vs, rfl, hs, by rw [← r.length]; exact hn, hg G F σ H vs rh sl r QV k⟩
/-- xs[i] = e -/
theorem g_setL {Q : DSt → DH → Prop} {x : D} (ho : dE K ta δ h (fun o h1 => dE K tb δ h1 (fun iv h2 => ∃ (l : Addr) (xs : List D) (n : Int) (j : Nat), o = .ref l ∧ iv = .int n ∧ h2 l = some (.lst xs) ∧ ixN xs.length n = some j ∧ Q δ (dupd h2 l (.lst (xs.set j x)))))) :
    dG K (gSub ta tb rSetL) x δ h Q := fun G F σ H v rh sl rv QV k => by
  refine ho G F σ H rh sl _ ?_
  rintro v1 H1 ⟨G1, d1, h1, e1, rh1, rv1, q1⟩
  refine q1 G1 F σ H1 rh1 (sl_mono e1 sl) _ ?_
  rintro v2 H2 ⟨G2, d2, h2, e2, rh2, rv2, l, xs, n, j, rfl, rfl, e3, e4, q2⟩
  cases rv1; cases rv2
  obtain ⟨_, u, e5, e6⟩ := rh2.own _ _ e3
  obtain ⟨vs, rfl, rs⟩ := rpo_lst e6
  refine ⟨l, vs, n, j, rfl, rfl, e5, by rw [← rs.length]; exact e4, ?_⟩
  exact k _ _ ⟨G2, δ, _, e1.trans e2, rh2.write e3 (o := .lst (xs.set j x)) (u := .lst (vs.set j v)) (rs.set (rv.mono (e1.trans e2)) j), sl_mono (e1.trans e2) sl, q2⟩

/-! ### statements -/
theorem s0_next (q : E.nx δ h) : dS0 K tNext E δ h := fun G F σ H rh sl Z l => l.1 _ _ ⟨G, δ, h, Ex.refl G, rh, sl, q⟩
theorem s0_brk (q : E.bk δ h) : dS0 K tBreak E δ h := fun G F σ H rh sl Z l => l.2.2.1 _ _ ⟨G, δ, h, Ex.refl G, rh, sl, q⟩
theorem s0_cont (q : E.ct δ h) : dS0 K tCont E δ h := fun G F σ H rh sl Z l => l.2.2.2 _ _ ⟨G, δ, h, Ex.refl G, rh, sl, q⟩
theorem s0_seq (q : dS0 K ts { E with nx := dS0 K tu E } δ h) : dS0 K (tSeq ts tu) E δ h := fun G F σ H rh sl Z l => by
  refine q G F σ H rh sl _ ⟨?_, l.2.1, l.2.2.1, l.2.2.2⟩
  rintro σ1 H1 ⟨G1, δ1, h1, e1, rh1, sl1, q1⟩
  exact q1 G1 F σ1 H1 rh1 sl1 Z (l.up e1)
theorem s0_asg {g : TG} (he : dE K te δ h (fun d h1 => dG K g d δ h1 E.nx)) : dS0 K (tAsg te g) E δ h := fun G F σ H rh sl Z l => by
  refine he G F σ H rh sl _ ?_
  rintro v H1 ⟨G1, d, h1, e1, rh1, rv, q⟩
  exact q G1 F σ H1 v rh1 (sl_mono e1 sl) rv _ fun s H2 q2 => l.1 _ _ (q2.up e1)
theorem s0_drop (he : dE K te δ h (fun d h1 => E.nx δ h1)) : dS0 K (tDrop te) E δ h := fun G F σ H rh sl Z l => by
  refine he G F σ H rh sl _ ?_
  rintro v H1 ⟨G1, d, h1, e1, rh1, rv, q⟩
  exact l.1 _ _ ⟨G1, δ, h1, e1, rh1, sl_mono e1 sl, q⟩
theorem s0_ret (he : dE K te δ h E.rt) : dS0 K (tRet te) E δ h := fun G F σ H rh sl Z l => he G F σ H rh sl _ l.2.1
theorem s0_retN (q : E.rt .non h) : dS0 K tRetN E δ h := fun G F σ H rh sl Z l => l.2.1 _ _ (.of rh .non q)
theorem s0_if (hc : dT K c δ h (fun b h1 => (b = true → dS0 K tu E δ h1) ∧ (b = false → dS0 K tw E δ h1))) : dS0 K (tIfS c tu tw) E δ h := fun G F σ H rh sl Z l => by
  refine hc G F σ H rh sl _ ?_
  rintro b H1 ⟨G1, h1, e1, rh1, q1, q2⟩
  cases b with
  | true => rw [if_pos rfl]; exact q1 rfl G1 F σ H1 rh1 (sl_mono e1 sl) Z (l.up e1)
  | false => rw [if_neg Bool.false_ne_true]; exact q2 rfl G1 F σ H1 rh1 (sl_mono e1 sl) Z (l.up e1)
theorem s0_aug {f : Int → Int → Int} {n : Int} (e : δ[i]? = some (some (.int n))) (he : dE K te δ h (fun d h1 => ∃ m, d = .int m ∧ E.nx (δ.set i (some (.int (f n m)))) h1)) : dS0 K (tAug i te (ipI f)) E δ h := fun G F σ H rh sl Z l => by
  obtain ⟨v, e1, r1⟩ := sl_get sl e
  cases r1
  refine ⟨_, e1, he G F σ H rh sl _ ?_⟩
  rintro v H1 ⟨G1, d, h1, e1, rh1, rv, m, rfl, q⟩
  cases rv
  exact ⟨n, m, rfl, rfl, l.1 _ _ ⟨G1, _, h1, e1, rh1, sl_set (.some (.int _)) i (sl_mono e1 sl), q⟩⟩
/-- what is owned is frozen from here on -/
def frzD (a : Addr) (ds : List D) : Option D → Option D
  | some (.ref b) => if b = a then some (.lst ds) else some (.ref b)
  | d => d
theorem s0_frz (e : h a = some (.lst ds)) (q : dS0 K ts E (δ.map (frzD a ds)) (derase h a)) : dS0 K ts E δ h := fun G F σ H rh sl Z l => by
  obtain ⟨vs, ex, rh2, r2⟩ := rh.freeze e
  refine q _ F σ H rh2 ?_ Z (l.up ex)
  have g : ∀ {δ : DSt} {σ : L2.St}, Sl K G δ σ → Sl K (upd G a (.lst vs)) (δ.map (frzD a ds)) σ := by
    intro δ σ s
    induction s with
    | nil => exact .nil
    | @cons d0 v0 _ _ r _ ih =>
      refine .cons ?_ ih
      cases r with
      | none => exact .none
      | @some d v r =>
        cases d <;> try exact .some (r.mono ex)
        rename_i b
        show RpM K _ (if b = a then some (.lst ds) else some (.ref b)) _
        by_cases z : b = a
        · rw [if_pos z]; subst z; cases r; exact .some r2
        · rw [if_neg z]; exact .some (r.mono ex)
  exact g sl
section
variable {nx bk ct : DP} {rt : DK}
theorem s_next (q : nx δ h) : dS K tNext nx rt bk ct δ h := s0_next (E := ⟨nx, rt, bk, ct⟩) q
theorem s_brk (q : bk δ h) : dS K tBreak nx rt bk ct δ h := s0_brk (E := ⟨nx, rt, bk, ct⟩) q
theorem s_cont (q : ct δ h) : dS K tCont nx rt bk ct δ h := s0_cont (E := ⟨nx, rt, bk, ct⟩) q
theorem s_seq (q : dS K ts (dS K tu nx rt bk ct) rt bk ct δ h) : dS K (tSeq ts tu) nx rt bk ct δ h := s0_seq (E := ⟨nx, rt, bk, ct⟩) q
theorem s_asg {g : TG} (he : dE K te δ h (fun d h1 => dG K g d δ h1 nx)) : dS K (tAsg te g) nx rt bk ct δ h := s0_asg (E := ⟨nx, rt, bk, ct⟩) he
theorem s_drop (he : dE K te δ h (fun d h1 => nx δ h1)) : dS K (tDrop te) nx rt bk ct δ h := s0_drop (E := ⟨nx, rt, bk, ct⟩) he
theorem s_ret (he : dE K te δ h rt) : dS K (tRet te) nx rt bk ct δ h := s0_ret (E := ⟨nx, rt, bk, ct⟩) he
theorem s_retN (q : rt .non h) : dS K tRetN nx rt bk ct δ h := s0_retN (E := ⟨nx, rt, bk, ct⟩) q
theorem s_if (hc : dT K c δ h (fun b h1 => (b = true → dS K tu nx rt bk ct δ h1) ∧ (b = false → dS K tw nx rt bk ct δ h1))) : dS K (tIfS c tu tw) nx rt bk ct δ h := s0_if (E := ⟨nx, rt, bk, ct⟩) hc
theorem s_aug {f : Int → Int → Int} {n : Int} (e : δ[i]? = some (some (.int n))) (he : dE K te δ h (fun d h1 => ∃ m, d = .int m ∧ nx (δ.set i (some (.int (f n m)))) h1)) : dS K (tAug i te (ipI f)) nx rt bk ct δ h := s0_aug (E := ⟨nx, rt, bk, ct⟩) e he
theorem s_frz (e : h a = some (.lst ds)) (q : dS K ts nx rt bk ct (δ.map (frzD a ds)) (derase h a)) : dS K ts nx rt bk ct δ h := s0_frz (E := ⟨nx, rt, bk, ct⟩) e q
end
end
end DL
set_option maxHeartbeats 2000000
/-! DL: loops, comprehensions, calls. -/
namespace L2
open PySem PySem.Spec PyProof.Rows
theorem pi_seqX {X : Cx} {tg l : Expr} {tl : TE} (hl : PE X l tl) : PI X tg l (fun σ H R => tl σ H fun x H1 => ∃ a, x = .ref a ∧ (((∃ xs, SqL X.K H1 a xs) ∧ R (Itl X.K a) H1) ∨ ((∃ xs, SqT X.K H1 a xs) ∧ R (Itt X.K a) H1))) := by
  refine ⟨fun pins s σ H R I h => ?_⟩
  refine thn (hl.run pins s σ H _ I h) fun v s1 ⟨x, H1, I1, r1, q1⟩ => ?_
  obtain ⟨a, e, q⟩ := q1
  subst e
  cases r1
  rcases q with ⟨⟨xs, hq⟩, q⟩ | ⟨⟨xs, hq⟩, q⟩
  · obtain ⟨its, rv, p, hz⟩ := I1.list hq
    refine wpAny_pyIter_list p.isList ?_
    refine ⟨s1.heap.objs.size, [s1.heap.objs.size], _, _, H1, rfl, I1.kept (t' := s1.toks) fun b o e => Heap.get?_push_of_some _ e, turn_list a _, ⟨_, Heap.get?_push_size _ rfl, rfl, rfl⟩, fun b hb => ?_, q⟩
    have e : b = s1.heap.objs.size := by simpa using hb
    subst e
    exact I1.fpOk (Nat.le_refl _) (I1.hok.fresh (Nat.le_refl _))
  · obtain ⟨its, rv, p, hz⟩ := I1.tuple hq
    refine wpAny_pyIter_tuple (show s1.heap.IsTuple a its.toArray from p) ?_
    refine ⟨s1.heap.objs.size, [s1.heap.objs.size], _, _, H1, rfl, I1.kept (t' := s1.toks) fun b o e => Heap.get?_push_of_some _ e, turn_tuple a _, ⟨_, Heap.get?_push_size _ rfl, rfl, rfl⟩, fun b hb => ?_, q⟩
    have e : b = s1.heap.objs.size := by simpa using hb
    subst e
    exact I1.fpOk (Nat.le_refl _) (I1.hok.fresh (Nat.le_refl _))
end L2
namespace DL
open PySem L2 RZ
open Evl (Ex)
section
variable {K : PySem.W.Frag} {G G' F H H' : Hp} {h h' : DH} {Q : DK} {δ : DSt} {d x y z : D} {ds xs : List D} {ta tb tc te tl : TE} {t u c : TT} {E : DEnds} {ts tu tw : TS} {a p : Addr} {i : Nat} {r r' : R2} {wi : TI} {g : TG} {tt : TT}

/-- what an iterator yields, while G stands and C holds -/
structure Src (K : PySem.W.Frag) (G : Hp) (J : It) (ds : List D) (C : DH → Prop) : Prop where
  stop : ∀ G' F h H i, Ex G G' → RH K G' F h H → C h → ds.length ≤ i → J.stop i H
  go : ∀ G' F h H i d, Ex G G' → RH K G' F h H → C h → ds[i]? = some d → J.go i H
  yld : ∀ G' F h H i d x H', Ex G G' → RH K G' F h H → C h → ds[i]? = some d → J.yld i H x H' → ∃ G'', Ex G' G'' ∧ RH K G'' F h H' ∧ Rp K G'' d x
def dI (K : PySem.W.Frag) (wi : TI) (δ : DSt) (h : DH) (Q : List D → (DH → Prop) → DH → Prop) : Prop := ∀ G F σ H, RH K G F h H → Sl K G δ σ → ∀ R : It → Hp → Prop, (∀ J H' G' h' ds C, Ex G G' → RH K G' F h' H' → Src K G' J ds C → C h' → Q ds C h' → R J H') → wi σ H R

theorem IsS.ofL (l : IsL h x ds) (rh : RH K G F h H) {p : Addr} (r : Rp K G x (.ref p)) : ∃ vs, SqL K H p vs ∧ Rps K G ds vs := by
  obtain ⟨q, vs, e, h1, h2⟩ := l.of rh r
  cases e
  exact ⟨vs, h1, h2⟩
theorem src_l {p : Addr} (r : Rp K G x (.ref p)) : Src K G (Itl K p) ds (fun h => IsL h x ds) where
  stop G' F h H i e rh c l := by
    obtain ⟨vs, h1, h2⟩ := IsS.ofL c rh (r.mono e)
    exact ⟨vs, h1, by rw [← h2.length]; exact l⟩
  go G' F h H i d e rh c q := by
    obtain ⟨vs, h1, h2⟩ := IsS.ofL c rh (r.mono e)
    obtain ⟨v, g1, _⟩ := h2.get q
    exact ⟨vs, v, h1, g1⟩
  yld G' F h H i d x0 H' e rh c q y := by
    obtain ⟨rfl, y⟩ := y
    obtain ⟨vs, h1, h2⟩ := IsS.ofL c rh (r.mono e)
    obtain ⟨v, g1, g2⟩ := h2.get q
    have := y vs h1
    rw [g1] at this; cases this
    exact ⟨G', Ex.refl _, rh, g2⟩
theorem src_t {p : Addr} {vs : List V} (hs : SqT K G p vs) (r : Rps K G ds vs) : Src K G (Itt K p) ds (fun _ => True) where
  stop G' F h H i e rh c l := ⟨vs, Evl.ex_t (e.trans rh.ex) hs, by rw [← r.length]; exact l⟩
  go G' F h H i d e rh c q := by
    obtain ⟨v, h1, _⟩ := r.get q
    exact ⟨vs, v, Evl.ex_t (e.trans rh.ex) hs, h1⟩
  yld G' F h H i d x H' e rh c q y := by
    obtain ⟨rfl, y⟩ := y
    obtain ⟨v, h1, h2⟩ := r.get q
    have := y vs (Evl.ex_t (e.trans rh.ex) hs)
    rw [h1] at this; cases this
    exact ⟨G', Ex.refl _, rh, h2.mono e⟩
/-- lo, lo + 1, .. -/
def rngD (lo : Int) (n : Nat) : List D := (List.range n).map fun i => D.int (lo + (i : Nat))
theorem rngD_len {lo : Int} {n : Nat} : (rngD lo n).length = n := by unfold rngD; rw [List.length_map, List.length_range]
theorem rngD_get {lo : Int} {n i : Nat} {d : D} (e : (rngD lo n)[i]? = some d) : i < n ∧ d = .int (lo + (i : Nat)) := by
  unfold rngD at e
  rw [List.getElem?_map] at e
  by_cases hi : i < n
  · rw [List.getElem?_range hi] at e
    exact ⟨hi, (Option.some.inj e).symm⟩
  · rw [List.getElem?_eq_none (by rw [List.length_range]; omega)] at e
    cases e
theorem src_r {lo : Int} {n : Nat} : Src K G (Itr lo n) (rngD lo n) (fun _ => True) where
  stop G' F h H i e rh c l := by rw [rngD_len] at l; exact l
  go G' F h H i d e rh c q := (rngD_get q).1
  yld G' F h H i d x H' e rh c q y := by
    obtain ⟨rfl, rfl⟩ := y
    obtain ⟨_, rfl⟩ := rngD_get q
    exact ⟨G', Ex.refl _, rh, .int _⟩
variable {Q' : List D → (DH → Prop) → DH → Prop}
/-- a list or a tuple -/
def iSeq (K : PySem.W.Frag) (tl : TE) : TI := fun σ H R => tl σ H fun x H1 => ∃ a, x = .ref a ∧ (((∃ xs, SqL K H1 a xs) ∧ R (Itl K a) H1) ∨ ((∃ xs, SqT K H1 a xs) ∧ R (Itt K a) H1))
theorem i_list (hl : dE K tl δ h (fun d h1 => ∃ ds, IsL h1 d ds ∧ Q' ds (fun h' => IsL h' d ds) h1)) : dI K (iList K tl) δ h Q' := fun G F σ H rh sl R k => by
  refine hl G F σ H rh sl _ ?_
  rintro v H1 ⟨G1, d, h1, e1, rh1, rv, ds, l, q⟩
  obtain ⟨p, vs, rfl, hs, r⟩ := l.of rh1 rv
  exact ⟨p, rfl, ⟨vs, hs⟩, k _ _ G1 h1 ds _ e1 rh1 (src_l rv) l q⟩
theorem i_tup (hl : dE K tl δ h (fun d h1 => ∃ ds, d = .tup ds ∧ Q' ds (fun _ => True) h1)) : dI K (iTup K tl) δ h Q' := fun G F σ H rh sl R k => by
  refine hl G F σ H rh sl _ ?_
  rintro v H1 ⟨G1, d, h1, e1, rh1, rv, ds, rfl, q⟩
  cases rv with
  | tup hs r => exact ⟨_, rfl, ⟨_, Evl.ex_t rh1.ex hs⟩, k _ _ G1 h1 ds _ e1 rh1 (src_t hs r) trivial q⟩
theorem Src.imp {J : It} {C C' : DH → Prop} (s : Src K G J ds C) (k : ∀ h, C' h → C h) : Src K G J ds C' :=
  ⟨fun G' F h H i e r c => s.stop G' F h H i e r (k _ c), fun G' F h H i d e r c => s.go G' F h H i d e r (k _ c), fun G' F h H i d x H' e r c => s.yld G' F h H i d x H' e r (k _ c)⟩
theorem i_seq (hl : dE K tl δ h (fun d h1 => ∃ ds, IsS h1 d ds ∧ Q' ds (fun h' => IsS h' d ds) h1)) : dI K (iSeq K tl) δ h Q' := fun G F σ H rh sl R k => by
  refine hl G F σ H rh sl _ ?_
  rintro v H1 ⟨G1, d, h1, e1, rh1, rv, ds, l, q⟩
  cases l with
  | lst l =>
    obtain ⟨p, vs, rfl, hs, r⟩ := l.of rh1 rv
    refine ⟨p, rfl, .inl ⟨⟨vs, hs⟩, k _ _ G1 h1 ds _ e1 rh1 ((src_l rv).imp fun h c => ?_) (.lst l) q⟩⟩
    cases c with
    | lst l => exact l
    | tup => cases l
  | tup =>
    cases rv with
    | tup hs r => exact ⟨_, rfl, .inr ⟨⟨_, Evl.ex_t rh1.ex hs⟩, k _ _ G1 h1 ds _ e1 rh1 ((src_t hs r).imp fun _ _ => trivial) (.tup _) q⟩⟩
theorem i_rng1 {ta : TA} (hl : dA K ta δ h (fun xs h1 => ∃ n : Int, xs = [.int n] ∧ (-(2 ^ 62) ≤ n ∧ n < 2 ^ 62) ∧ Q' (rngD 0 n.toNat) (fun _ => True) h1)) : dI K (iRng1 ta) δ h Q' := fun G F σ H rh sl R k => by
  refine hl G F σ H rh sl _ ?_
  rintro vs H1 ⟨G1, ds, h1, e1, rh1, rv, n, rfl, hn, q⟩
  cases rv with
  | cons r0 r1 =>
    cases r1; cases r0
    exact ⟨n, rfl, hn.1, hn.2, k _ _ G1 h1 _ _ e1 rh1 src_r trivial q⟩
theorem i_rng2 {ta : TA} (hl : dA K ta δ h (fun xs h1 => ∃ m n : Int, xs = [.int m, .int n] ∧ (-(2 ^ 62) ≤ m ∧ m < 2 ^ 62 ∧ -(2 ^ 62) ≤ n ∧ n < 2 ^ 62) ∧ Q' (rngD m (n - m).toNat) (fun _ => True) h1)) : dI K (iRng2 ta) δ h Q' := fun G F σ H rh sl R k => by
  refine hl G F σ H rh sl _ ?_
  rintro vs H1 ⟨G1, ds, h1, e1, rh1, rv, m, n, rfl, hn, q⟩
  cases rv with
  | cons r0 r1 =>
    cases r1 with
    | cons r1 r2 =>
      cases r2; cases r0; cases r1
      exact ⟨m, n, rfl, hn, k _ _ G1 h1 _ _ e1 rh1 src_r trivial q⟩
/-- the pairs of two lists -/
def zipD (xs ys : List D) : List D := List.zipWith (fun x y => D.tup [x, y]) xs ys
theorem zipD_get {xs ys : List D} {i : Nat} {d : D} (e : (zipD xs ys)[i]? = some d) : ∃ x y, xs[i]? = some x ∧ ys[i]? = some y ∧ d = .tup [x, y] := by
  unfold zipD at e
  rw [List.getElem?_zipWith] at e
  cases e1 : xs[i]? with
  | none => rw [e1] at e; cases ys[i]? <;> cases e
  | some x =>
    cases e2 : ys[i]? with
    | none => rw [e1, e2] at e; cases e
    | some y => rw [e1, e2] at e; exact ⟨x, y, rfl, rfl, (Option.some.inj e).symm⟩
theorem zipD_len {xs ys : List D} : (zipD xs ys).length = min xs.length ys.length := List.length_zipWith
theorem src_z {p q : Addr} {y : D} {ys : List D} (r : Rp K G x (.ref p)) (r2 : Rp K G y (.ref q)) : Src K G (Itz K p q) (zipD xs ys) (fun h => IsL h x xs ∧ IsL h y ys) where
  stop G' F h H i e rh c l := by
    rw [zipD_len] at l
    obtain ⟨vs, h1, h2⟩ := IsS.ofL c.1 rh (r.mono e)
    obtain ⟨ws, h3, h4⟩ := IsS.ofL c.2 rh (r2.mono e)
    exact ⟨vs, ws, h1, h3, by rw [← h2.length, ← h4.length]; omega⟩
  go G' F h H i d e rh c q := by
    obtain ⟨a, b, k1, k2, _⟩ := zipD_get q
    obtain ⟨vs, h1, h2⟩ := IsS.ofL c.1 rh (r.mono e)
    obtain ⟨ws, h3, h4⟩ := IsS.ofL c.2 rh (r2.mono e)
    obtain ⟨v, g1, _⟩ := h2.get k1
    obtain ⟨w, g2, _⟩ := h4.get k2
    exact ⟨vs, ws, v, w, h1, h3, g1, g2⟩
  yld G' F h H i d x0 H' e rh c q0 yy := by
    obtain ⟨a, b, k1, k2, rfl⟩ := zipD_get q0
    obtain ⟨vs, h1, h2⟩ := IsS.ofL c.1 rh (r.mono e)
    obtain ⟨ws, h3, h4⟩ := IsS.ofL c.2 rh (r2.mono e)
    obtain ⟨v, g1, rv⟩ := h2.get k1
    obtain ⟨w, g2, rw'⟩ := h4.get k2
    obtain ⟨T, a', b', rfl, hT, rfl, m1, m2⟩ := yy
    have q1 := m1 vs h1
    have q2 := m2 ws h3
    rw [g1] at q1; rw [g2] at q2; cases q1; cases q2
    obtain ⟨ex, rh2, gp, _⟩ := rh.grow hT (.tup [v, w])
    exact ⟨_, ex, rh2, .tup (Or.inl (Or.inl gp)) (.cons (rv.mono ex) (.cons (rw'.mono ex) .nil))⟩
theorem src_zT {p q : Addr} {vs ws : List V} {ys : List D} (hs : SqT K G p vs) (r : Rps K G xs vs) (hs2 : SqT K G q ws) (r2 : Rps K G ys ws) : Src K G (ItzT K p q) (zipD xs ys) (fun _ => True) where
  stop G' F h H i e rh c l := by
    rw [zipD_len] at l
    exact ⟨vs, ws, Evl.ex_t (e.trans rh.ex) hs, Evl.ex_t (e.trans rh.ex) hs2, by rw [← r.length, ← r2.length]; omega⟩
  go G' F h H i d e rh c q := by
    obtain ⟨x, y, h1, h2, _⟩ := zipD_get q
    obtain ⟨v, g1, _⟩ := r.get h1
    obtain ⟨w, g2, _⟩ := r2.get h2
    exact ⟨vs, ws, v, w, Evl.ex_t (e.trans rh.ex) hs, Evl.ex_t (e.trans rh.ex) hs2, g1, g2⟩
  yld G' F h H i d x0 H' e rh c q0 yy := by
    obtain ⟨x, y, h1, h2, rfl⟩ := zipD_get q0
    obtain ⟨v, g1, rv⟩ := r.get h1
    obtain ⟨w, g2, rw'⟩ := r2.get h2
    obtain ⟨T, a, b, rfl, hT, rfl, k1, k2⟩ := yy
    have q1 := k1 vs (Evl.ex_t (e.trans rh.ex) hs)
    have q2 := k2 ws (Evl.ex_t (e.trans rh.ex) hs2)
    rw [g1] at q1; rw [g2] at q2; cases q1; cases q2
    obtain ⟨ex, rh2, gp, _⟩ := rh.grow hT (.tup [v, w])
    exact ⟨_, ex, rh2, .tup (Or.inl (Or.inl gp)) (.cons (rv.mono (e.trans ex)) (.cons (rw'.mono (e.trans ex)) .nil))⟩
theorem i_zipL {ta : TA} (hl : dA K ta δ h (fun zs h1 => ∃ x y xs ys, zs = [x, y] ∧ IsL h1 x xs ∧ IsL h1 y ys ∧ Q' (zipD xs ys) (fun h' => IsL h' x xs ∧ IsL h' y ys) h1)) : dI K (iZipA K ta) δ h Q' := fun G F σ H rh sl R k => by
  refine hl G F σ H rh sl _ ?_
  rintro vs H1 ⟨G1, ds, h1, e1, rh1, rv, x, y, xs, ys, rfl, l1, l2, q⟩
  cases rv with
  | cons r0 r1 =>
    cases r1 with
    | cons r1 r2 =>
      cases r2
      obtain ⟨p, vs, rfl, hs, r⟩ := l1.of rh1 r0
      obtain ⟨p2, ws, rfl, hs2, r2⟩ := l2.of rh1 r1
      exact ⟨_, _, _, _, rfl, .inl ⟨hs, hs2, k _ _ G1 h1 _ _ e1 rh1 (src_z r0 r1) ⟨l1, l2⟩ q⟩⟩
theorem i_zipT {ta : TA} (hl : dA K ta δ h (fun zs h1 => ∃ xs ys, zs = [.tup xs, .tup ys] ∧ Q' (zipD xs ys) (fun _ => True) h1)) : dI K (iZipA K ta) δ h Q' := fun G F σ H rh sl R k => by
  refine hl G F σ H rh sl _ ?_
  rintro vs H1 ⟨G1, ds, h1, e1, rh1, rv, xs, ys, rfl, q⟩
  cases rv with
  | cons r0 r1 =>
    cases r1 with
    | cons r1 r2 =>
      cases r2
      cases r0 with
      | tup s0 q0 =>
        cases r1 with
        | tup s1 q1 => exact ⟨_, _, _, _, rfl, .inr ⟨Evl.ex_t rh1.ex s0, Evl.ex_t rh1.ex s1, k _ _ G1 h1 _ _ e1 rh1 (src_zT s0 q0 s1 q1) trivial q⟩⟩

/-! ### for, while -/
theorem s0_for (hi : dI K wi δ h (fun ds C h1 => ∃ P : Nat → DSt → DH → Prop, P 0 δ h1 ∧ (∀ i δ' h', P i δ' h' → C h') ∧
    (∀ i d δ' h', ds[i]? = some d → P i δ' h' → dG K g d δ' h' (fun δ2 h2 => dS0 K tu { E with nx := P (i + 1), ct := P (i + 1), bk := E.nx } δ2 h2)) ∧
    (∀ δ' h', P ds.length δ' h' → E.nx δ' h'))) : dS0 K (tFor wi g tu) E δ h := fun G F σ H rh sl Z l => by
  refine hi G F σ H rh sl _ ?_
  rintro J H1 G1 h1 ds C e1 rh1 src c0 ⟨P, p0, pc, ps, pd⟩
  refine ⟨fun i m σ H => m = ds.length - i ∧ i ≤ ds.length ∧ LS K G1 F (P i) σ H, ⟨ds.length, by simp, Nat.zero_le _, ⟨G1, δ, h1, Ex.refl _, rh1, sl_mono e1 sl, p0⟩⟩, ?_⟩
  rintro i m σ2 H2 ⟨rfl, hi, G2, δ2, h2, e2, rh2, sl2, p2⟩
  by_cases hlt : i < ds.length
  · have ed : ds[i]? = some ds[i] := by simp [hlt]
    refine .inr ⟨src.go G2 F h2 H2 i _ e2 rh2 (pc _ _ _ p2) ed, LS K G1 F (P (i + 1)), fun σ' H' q => ⟨ds.length - (i + 1), by omega, rfl, hlt, q⟩, ?_⟩
    intro x H3 y
    obtain ⟨G3, e3, rh3, rx⟩ := src.yld G2 F h2 H2 i _ x H3 e2 rh2 (pc _ _ _ p2) ed y
    refine ps i _ δ2 h2 ed p2 G3 F σ2 H3 x rh3 (sl_mono e3 sl2) rx _ ?_
    rintro σ4 H4 ⟨G4, δ4, h4, e4, rh4, sl4, q4⟩
    have e14 := e2.trans (e3.trans e4)
    exact q4 G4 F σ4 H4 rh4 sl4 _ ⟨fun σ' H' q => q.up e14, fun v H' q => l.2.1 _ _ (q.up (e1.trans e14)), fun σ' H' q => l.1 _ _ (q.up (e1.trans e14)), fun σ' H' q => q.up e14⟩
  · have e : i = ds.length := by omega
    subst e
    exact .inl ⟨src.stop G2 F h2 H2 _ e2 rh2 (pc _ _ _ p2) (Nat.le_refl _), l.1 _ _ ⟨G2, δ2, h2, e1.trans e2, rh2, sl2, pd _ _ p2⟩⟩
theorem s0_while (W : Nat → DSt → DH → Prop) (h0 : ∃ m, W m δ h)
    (hs : ∀ m δ' h', W m δ' h' → dT K c δ' h' (fun b h1 => (b = true → dS0 K tu { E with nx := fun δ2 h2 => ∃ m', m' < m ∧ W m' δ2 h2, ct := fun δ2 h2 => ∃ m', m' < m ∧ W m' δ2 h2, bk := E.nx } δ' h1) ∧ (b = false → E.nx δ' h1))) :
    dS0 K (tWhile c tu) E δ h := fun G F σ H rh sl Z l => by
  obtain ⟨m0, w0⟩ := h0
  refine ⟨fun m => LS K G F (W m), ⟨m0, ⟨G, δ, h, Ex.refl _, rh, sl, w0⟩⟩, ?_⟩
  rintro m σ1 H1 ⟨G1, δ1, h1, e1, rh1, sl1, w1⟩
  refine hs m δ1 h1 w1 G1 F σ1 H1 rh1 sl1 _ ?_
  rintro b H2 ⟨G2, h2, e2, rh2, q1, q2⟩
  cases b with
  | true =>
    rw [if_pos rfl]
    refine ⟨LS K G F (fun δ2 h2 => ∃ m', m' < m ∧ W m' δ2 h2), ?_, ?_⟩
    · rintro σ' H' ⟨G3, δ3, h3, e3, rh3, sl3, m', hm, w3⟩
      exact ⟨m', hm, G3, δ3, h3, e3, rh3, sl3, w3⟩
    · have e12 := e1.trans e2
      exact q1 rfl G2 F σ1 H2 rh2 (sl_mono e2 sl1) _ ⟨fun σ' H' q => q.up e12, fun v H' q => l.2.1 _ _ (q.up e12), fun σ' H' q => l.1 _ _ (q.up e12), fun σ' H' q => q.up e12⟩
  | false =>
    rw [if_neg Bool.false_ne_true]
    exact l.1 _ _ ⟨G2, δ1, h2, e1.trans e2, rh2, sl_mono e2 sl1, q2 rfl⟩

section
variable {nx bk ct : DP} {rt : DK}
theorem s_for (hi : dI K wi δ h (fun ds C h1 => ∃ P : Nat → DSt → DH → Prop, P 0 δ h1 ∧ (∀ i δ' h', P i δ' h' → C h') ∧
    (∀ i d δ' h', ds[i]? = some d → P i δ' h' → dG K g d δ' h' (dS K tu (P (i + 1)) rt nx (P (i + 1)))) ∧
    (∀ δ' h', P ds.length δ' h' → nx δ' h'))) : dS K (tFor wi g tu) nx rt bk ct δ h := s0_for (E := ⟨nx, rt, bk, ct⟩) hi
theorem s_while (W : Nat → DSt → DH → Prop) (h0 : ∃ m, W m δ h)
    (hs : ∀ m δ' h', W m δ' h' → dT K c δ' h' (fun b h1 => (b = true → dS K tu (fun δ2 h2 => ∃ m', m' < m ∧ W m' δ2 h2) rt nx (fun δ2 h2 => ∃ m', m' < m ∧ W m' δ2 h2) δ' h1) ∧ (b = false → nx δ' h1))) :
    dS K (tWhile c tu) nx rt bk ct δ h := s0_while (E := ⟨nx, rt, bk, ct⟩) W h0 hs
end
/-! ### list comprehensions -/
def dwipe (δ : DSt) : List Nat → DSt
  | [] => δ
  | v :: vs => (dwipe δ vs).set v none
theorem sl_wipe {σ : L2.St} (s : Sl K G δ σ) : ∀ vs : List Nat, Sl K G (dwipe δ vs) (wipe σ vs)
  | [] => s
  | v :: vs => sl_set .none v (sl_wipe s vs)
theorem wipe_set {σ : L2.St} {v : Option V} : ∀ {vs : List Nat} {i : Nat}, i ∈ vs → wipe (σ.set i v) vs = wipe σ vs
  | w :: vs, i, hm => by
    unfold wipe
    by_cases e : i ∈ vs
    · rw [wipe_set e]
    · have ei : i = w := by
        rcases List.mem_cons.mp hm with q | q
        · exact q
        · exact absurd q e
      subst ei
      have g : ∀ {us : List Nat}, i ∉ us → wipe (σ.set i v) us = (wipe σ us).set i v := by
        intro us
        induction us with
        | nil => intro _; rfl
        | cons a us ih =>
          intro hn
          simp only [List.mem_cons, not_or] at hn
          unfold wipe
          rw [ih hn.2, List.set_comm _ _ hn.1]
      rw [g e, List.set_set]
theorem wipe_sub {σ : L2.St} {vs : List Nat} : ∀ {us : List Nat}, (∀ i ∈ us, i ∈ vs) → wipe (wipe σ us) vs = wipe σ vs
  | [], _ => rfl
  | u :: us, hs => by
    show wipe ((wipe σ us).set u none) vs = wipe σ vs
    rw [wipe_set (hs u (List.mem_cons_self))]
    exact wipe_sub fun i hi => hs i (List.mem_cons_of_mem _ hi)
/-- a target that stores at vs alone -/
def GW (g : TG) (vs : List Nat) : Prop := ∀ (v : V) (σ : L2.St) (H : Hp) (Q : L2.St → Hp → Prop), g v σ H Q → g v σ H (fun σ2 H2 => wipe σ2 vs = wipe σ vs ∧ Q σ2 H2)
def GWs (g : TGs) (vs : List Nat) : Prop := ∀ (v : List V) (σ : L2.St) (H : Hp) (Q : L2.St → Hp → Prop), g v σ H Q → g v σ H (fun σ2 H2 => wipe σ2 vs = wipe σ vs ∧ Q σ2 H2)
theorem gw_name {i : Nat} {vs : List Nat} (e : i ∈ vs) : GW (gName i) vs := fun v σ H Q q => ⟨wipe_set e, q⟩
theorem gws_nil {vs : List Nat} : GWs gNil vs := fun v σ H Q q => ⟨q.1, rfl, q.2⟩
theorem gws_cons {g : TG} {gs : TGs} {vs : List Nat} (mono : ∀ v σ H (Q Q' : L2.St → Hp → Prop), (∀ s H, Q s H → Q' s H) → g v σ H Q → g v σ H Q') (h1 : GW g vs) (h2 : GWs gs vs) : GWs (gCons g gs) vs := fun v σ H Q q => by
  obtain ⟨x, r, rfl, q⟩ := q
  refine ⟨x, r, rfl, mono _ _ _ _ _ ?_ (h1 _ _ _ _ q)⟩
  rintro s H2 ⟨e, q2⟩
  have := h2 r s H2 _ q2
  rw [e] at this
  exact this
theorem gmono_name {i : Nat} : ∀ v σ H (Q Q' : L2.St → Hp → Prop), (∀ s H, Q s H → Q' s H) → gName i v σ H Q → gName i v σ H Q' := fun v σ H Q Q' k q => k _ _ q
theorem gmono_nil : ∀ v σ H (Q Q' : L2.St → Hp → Prop), (∀ s H, Q s H → Q' s H) → gNil v σ H Q → gNil v σ H Q' := fun v σ H Q Q' k q => ⟨q.1, k _ _ q.2⟩
theorem gmono_cons {g : TG} {gs : TGs} (m1 : ∀ v σ H (Q Q' : L2.St → Hp → Prop), (∀ s H, Q s H → Q' s H) → g v σ H Q → g v σ H Q') (m2 : ∀ v σ H (Q Q' : L2.St → Hp → Prop), (∀ s H, Q s H → Q' s H) → gs v σ H Q → gs v σ H Q') :
    ∀ v σ H (Q Q' : L2.St → Hp → Prop), (∀ s H, Q s H → Q' s H) → gCons g gs v σ H Q → gCons g gs v σ H Q' := fun v σ H Q Q' k q => by
  obtain ⟨x, r, rfl, q⟩ := q
  exact ⟨x, r, rfl, m1 _ _ _ _ _ (fun s H q => m2 _ _ _ _ _ k q) q⟩
theorem gmono_tup {n : Nat} {gs : TGs} (m2 : ∀ v σ H (Q Q' : L2.St → Hp → Prop), (∀ s H, Q s H → Q' s H) → gs v σ H Q → gs v σ H Q') :
    ∀ v σ H (Q Q' : L2.St → Hp → Prop), (∀ s H, Q s H → Q' s H) → gTup K n gs v σ H Q → gTup K n gs v σ H Q' := fun v σ H Q Q' k q => by
  obtain ⟨a, xs, rfl, h1, h2, q⟩ := q
  exact ⟨a, xs, rfl, h1, h2, m2 _ _ _ _ _ k q⟩
theorem gw_tup {n : Nat} {gs : TGs} {vs : List Nat} (h2 : GWs gs vs) : GW (gTup K n gs) vs := fun v σ H Q q => by
  obtain ⟨a, xs, rfl, h1, hn, q⟩ := q
  exact ⟨a, xs, rfl, h1, hn, h2 _ _ _ _ q⟩
/-- the list that is being made is held apart -/
theorem RH.hold (r : RH K G F h H) {p : Addr} (hp : H p = none) (u : HO) : RH K G (upd F p u) h (upd H p u) := by
  obtain ⟨_, _, _, gp, hh, hf⟩ := r.grow hp u
  refine ⟨fun a o e => ?_, fun a o e => ?_, fun a o e => ?_⟩
  · rw [upd_ne (ne_of_none e gp)]; exact r.ex a o e
  · by_cases z : a = p
    · subst z; rw [upd_same] at e; cases e; exact ⟨gp, hh, upd_same⟩
    · rw [upd_ne z] at e
      obtain ⟨e1, e2, e3⟩ := r.fr a o e
      exact ⟨e1, e2, by rw [upd_ne z]; exact e3⟩
  · obtain ⟨e1, u', e2, e3⟩ := r.own a o e
    have z : a ≠ p := ne_of_none e2 hp
    exact ⟨e1, u', by rw [upd_ne z]; exact e2, e3⟩
theorem RH.rehold {u u' : HO} (r : RH K G (upd F p u) h H) : RH K G (upd F p u') h (upd H p u') := by
  obtain ⟨gp, hh, hH⟩ := r.fr p u upd_same
  refine ⟨fun a o e => ?_, fun a o e => ?_, fun a o e => ?_⟩
  · rw [upd_ne (ne_of_none e gp)]; exact r.ex a o e
  · by_cases z : a = p
    · subst z; rw [upd_same] at e; cases e; exact ⟨gp, hh, upd_same⟩
    · rw [upd_ne z] at e
      obtain ⟨e1, e2, e3⟩ := r.fr a o (by rw [upd_ne z]; exact e)
      exact ⟨e1, e2, by rw [upd_ne z]; exact e3⟩
  · obtain ⟨e1, u2, e2, e3⟩ := r.own a o e
    have z : a ≠ p := fun z => by subst z; rw [hh] at e; cases e
    exact ⟨e1, u2, by rw [upd_ne z]; exact e2, e3⟩
theorem RH.release {u : HO} (r : RH K G (upd F p u) h H) (hF : F p = none) : Ex G (upd G p u) ∧ RH K (upd G p u) F h H ∧ upd G p u p = some u := by
  obtain ⟨gp, hh, hH⟩ := r.fr p u upd_same
  have ex : Ex G (upd G p u) := Ex.new gp
  refine ⟨ex, ⟨fun a o e => ?_, fun a o e => ?_, fun a o e => ?_⟩, upd_same⟩
  · by_cases z : a = p
    · subst z; rw [upd_same] at e; cases e; exact hH
    · rw [upd_ne z] at e; exact r.ex a o e
  · have z : a ≠ p := fun z => by subst z; rw [hF] at e; cases e
    obtain ⟨e1, e2, e3⟩ := r.fr a o (by rw [upd_ne z]; exact e)
    exact ⟨by rw [upd_ne z]; exact e1, e2, e3⟩
  · obtain ⟨e1, u2, e2, e3⟩ := r.own a o e
    have z : a ≠ p := fun z => by subst z; rw [hh] at e; cases e
    exact ⟨by rw [upd_ne z]; exact e1, u2, e2, e3.mono ex⟩
/-- .. to the owned ones -/
theorem RH.releaseO {u : HO} {o : DO} (r : RH K G (upd F p u) h H) (hF : F p = none) (ro : RpO K G o u) : h p = none ∧ RH K G F (dupd h p o) H := by
  obtain ⟨gp, hh, hH⟩ := r.fr p u upd_same
  refine ⟨hh, r.ex, fun a o e => ?_, fun a o e => ?_⟩
  · have z : a ≠ p := fun z => by subst z; rw [hF] at e; cases e
    obtain ⟨e1, e2, e3⟩ := r.fr a o (by rw [upd_ne z]; exact e)
    exact ⟨e1, by rw [du_ne z]; exact e2, e3⟩
  · by_cases z : a = p
    · subst z; rw [du_same] at e; cases e; exact ⟨gp, u, hH, ro⟩
    · rw [du_ne z] at e; exact r.own a o e
/-- P: by the turn, what is made so far, what is owned -/
theorem e_lcX {vs : List Nat} (hw : GW g vs) (hi : dI K wi δ h (fun ds C h1 => ds.length ≤ 100000 ∧ ∃ P : Nat → List D → DH → Prop, P 0 [] h1 ∧ (∀ i acc h', P i acc h' → C h') ∧
    (∀ i d acc h', ds[i]? = some d → P i acc h' → acc.length ≤ i → dG K g d (dwipe δ vs) h' (fun δ2 h2 => dT K tt δ2 h2 (fun b h3 => (b = true → dE K te δ2 h3 (fun y h4 => P (i + 1) (acc ++ [y]) h4)) ∧ (b = false → P (i + 1) acc h3)))) ∧
    (∀ acc h', P ds.length acc h' → Q (.lst acc) h' ∨ ∀ p, h' p = none → Q (.ref p) (dupd h' p (.lst acc))))) : dE K (tLc wi g tt te vs) δ h Q := fun G F σ H rh sl QV k => by
  refine hi G F σ H rh sl _ ?_
  rintro J H1 G1 h1 ds C e1 rh1 src c0 ⟨hz, P, p0, pc, ps, pd⟩
  intro p hp
  have hF : F p = none := (rh1.grow hp (.lst [])).2.2.2.2.2
  refine ⟨fun i m H => m = ds.length - i ∧ i ≤ ds.length ∧ ∃ G2 acc ws h2, Ex G1 G2 ∧ RH K G2 (upd F p (.lst ws)) h2 H ∧ Rps K G2 acc ws ∧ acc.length ≤ i ∧ P i acc h2,
    ⟨ds.length, by simp, Nat.zero_le _, G1, [], [], h1, Ex.refl _, rh1.hold hp _, .nil, Nat.le_refl _, p0⟩, ?_⟩
  rintro i m H2 ⟨rfl, hi, G2, acc, ws, h2, e2, rh2, ra, hl, p2⟩
  by_cases hlt : i < ds.length
  · have ed : ds[i]? = some ds[i] := by simp [hlt]
    refine .inr ⟨src.go G2 _ h2 H2 i _ e2 rh2 (pc _ _ _ p2) ed, fun H => ∃ G2 acc ws h2, Ex G1 G2 ∧ RH K G2 (upd F p (.lst ws)) h2 H ∧ Rps K G2 acc ws ∧ acc.length ≤ i + 1 ∧ P (i + 1) acc h2, fun H' q => ⟨ds.length - (i + 1), by omega, rfl, hlt, q⟩, ?_⟩
    intro x H3 y
    obtain ⟨G3, e3, rh3, rx⟩ := src.yld G2 _ h2 H2 i _ x H3 e2 rh2 (pc _ _ _ p2) ed y
    have hw2 := hw x (wipe σ vs) H3
    rw [wipe_sub (fun i hi => hi)] at hw2
    refine hw2 _ ?_
    refine ps i _ acc h2 ed p2 hl G3 _ (wipe σ vs) H3 x rh3 (sl_mono (e1.trans (e2.trans e3)) (sl_wipe sl vs)) rx _ ?_
    rintro σ4 H4 ⟨G4, δ4, h4, e4, rh4, sl4, q4⟩
    refine q4 G4 _ σ4 H4 rh4 sl4 _ ?_
    rintro b H5 ⟨G5, h5, e5, rh5, q5, q6⟩
    cases b with
    | true =>
      rw [if_pos rfl]
      refine q5 rfl G5 _ σ4 H5 rh5 (sl_mono e5 sl4) _ ?_
      rintro v H6 ⟨G6, d6, h6, e6, rh6, rv, p6⟩
      refine ⟨ws, (rh6.fr p _ upd_same).2.2, Evl.sz_lt (by rw [← ra.length]; omega), G6, acc ++ [d6], ws ++ [v], h6, e2.trans (e3.trans (e4.trans (e5.trans e6))), rh6.rehold, ?_, by rw [List.length_append]; simp; omega, p6⟩
      exact (ra.mono (e3.trans (e4.trans (e5.trans e6)))).append (.cons rv .nil)
    | false =>
      rw [if_neg Bool.false_ne_true]
      exact ⟨G5, acc, ws, h5, e2.trans (e3.trans (e4.trans e5)), rh5, ra.mono (e3.trans (e4.trans e5)), by omega, q6 rfl⟩
  · have e : i = ds.length := by omega
    subst e
    refine .inl ⟨src.stop G2 _ h2 H2 _ e2 rh2 (pc _ _ _ p2) (Nat.le_refl _), ?_⟩
    rcases pd _ _ p2 with q | q
    · obtain ⟨ex, rh3, gp⟩ := rh2.release hF
      exact k _ _ ⟨_, .lst acc, h2, e1.trans (e2.trans ex), rh3, .lst gp (ra.mono ex), q⟩
    · obtain ⟨hh, rh3⟩ := rh2.releaseO (o := .lst acc) hF ra
      exact k _ _ ⟨_, .ref p, _, e1.trans e2, rh3, .ref p, q p hh⟩

/-- every item's value, nothing owned changed -/
theorem e_lcM {vs : List Nat} (hw : GW g vs) (hi : dI K wi δ h (fun ds C h1 => ds.length ≤ 100000 ∧ C h1 ∧ ∃ ys : List D, ys.length = ds.length ∧
    (∀ (i : Nat) d, ds[i]? = some d → dG K g d (dwipe δ vs) h1 (fun δ2 h2 => dE K te δ2 h2 (fun y h3 => h3 = h1 ∧ ys[i]? = some y))) ∧ Q (.lst ys) h1)) : dE K (tLc wi g tYes te vs) δ h Q := by
  refine e_lcX hw ?_
  intro G F σ H rh sl R k
  refine hi G F σ H rh sl _ ?_
  rintro J H' G' h' ds C e1 rh1 src c0 ⟨hz, hc, ys, hl, hs, q⟩
  refine k J H' G' h' ds C e1 rh1 src c0 ⟨hz, fun i acc h2 => h2 = h' ∧ acc = ys.take i, ⟨rfl, rfl⟩, ?_, ?_, ?_⟩
  · rintro i acc h2 ⟨rfl, _⟩
    exact hc
  · rintro i d acc h2 hd ⟨rfl, rfl⟩ _
    intro G F σ H v rh sl rv QV k
    refine hs i d hd G F σ H v rh sl rv QV ?_
    rintro σ' H' ⟨G', δ', h', e, rh', sl', q'⟩
    refine k _ _ ⟨G', δ', h', e, rh', sl', ?_⟩
    intro G F σ H rh sl QB kb
    refine kb _ _ ⟨G, h', Ex.refl _, rh, fun _ => ?_, fun e => Bool.noConfusion e⟩
    intro G F σ H rh sl QV kv
    refine q' G F σ H rh sl QV ?_
    rintro v' H'' ⟨G'', d'', h'', e'', rh'', rv'', rfl, ey⟩
    refine kv _ _ ⟨G'', d'', _, e'', rh'', rv'', rfl, ?_⟩
    rw [List.take_add_one, ey]
    rfl
  · rintro acc h2 ⟨rfl, rfl⟩
    left
    rw [← hl, List.take_length]
    exact q
/-! ### defs -/
/-- what is let out: the class, the error's own dict -/
abbrev DX := Addr → Option Addr → DH → Prop
def LX (K : PySem.W.Frag) (G F : Hp) (QE : DX) : XK := fun cls dd H' => ∃ C G' h', cls = .ref C ∧ Ex G G' ∧ RH K G' F h' H' ∧ QE C dd h'
abbrev DSp := List D → DH → DK → DX → Prop
def X0 : DX := fun _ _ _ => False
def upSp (K : PySem.W.Frag) (sp : DSp) : Sp := fun vs H Q E => ∃ G F ds h QD QX, RH K G F h H ∧ Rps K G ds vs ∧ sp ds h QD QX ∧ (∀ v H', LV K G F QD v H' → Q v H') ∧ (∀ c d H', LX K G F QX c d H' → E c d H')
theorem e_call {sp : DSp} {EX : XK} {ta : TA} (he : dA K ta δ h (fun ds h1 => sp ds h1 Q X0)) : dE K (tCall (upSp K sp) [] EX ta) δ h Q := fun G F σ H rh sl QV k => by
  refine he G F σ H rh sl _ ?_
  rintro vs H1 ⟨G1, ds, h1, e1, rh1, rv, q⟩
  rw [List.append_nil]
  refine ⟨G1, F, ds, h1, Q, X0, rh1, rv, q, fun v H' l => k v H' (l.up e1), ?_⟩
  rintro c d H' ⟨C, G', h', _, _, _, z⟩
  exact z.elim
def dstart (N : List Str) (ds : List D) : DSt := ds.map some ++ List.replicate (N.length - ds.length) none
theorem sl_start {N : List Str} : ∀ {ds : List D} {vs : List V}, Rps K G ds vs → Sl K G (dstart N ds) (L2.start N vs) := by
  intro ds vs r
  unfold dstart L2.start
  rw [← r.length]
  have a : ∀ n, Sl K G (List.replicate n none) (List.replicate n none) := by
    intro n
    induction n with
    | zero => exact .nil
    | succ n ih => exact .cons .none ih
  have g : ∀ {ds : List D} {vs : List V} (n : Nat), Rps K G ds vs → Sl K G (ds.map some ++ List.replicate n none) (vs.map some ++ List.replicate n none) := by
    intro ds
    induction ds with
    | nil => intro vs n r; cases r; exact a n
    | cons d ds ih =>
      intro vs n r
      cases r with
      | cons h r => exact .cons (.some h) (ih n r)
  exact g _ r
/-- a def's body -/
def noP : DP := fun _ _ => False
abbrev dB (K : PySem.W.Frag) (t : TS) (N : List Str) (ds : List D) (h : DH) (QD : DK) : Prop := dS K t (fun _ h' => QD .non h') QD noP noP (dstart N ds) h
theorem body_ok {sp : DSp} {t : TS} {N : List Str} (hb : ∀ ds h QD QX, sp ds h QD QX → dB K t N ds h QD) (vs : List V) (H : Hp) (Q : VK) (E : XK) (hs : upSp K sp vs H Q E) :
    t { nx := fun _ H' => Q .non H', rt := Q } (L2.start N vs) H := by
  obtain ⟨G, F, ds, h, QD, QX, rh, rv, q, k, _⟩ := hs
  refine hb ds h QD QX q G F _ H rh (sl_start rv) _ ⟨?_, k, ?_, ?_⟩
  · rintro σ' H' ⟨G', δ', h', e, rh', sl', q'⟩
    exact k _ _ ⟨G', .non, h', e, rh', .non, q'⟩
  · rintro σ' H' ⟨G', δ', h', e, rh', sl', q'⟩
    exact q'.elim
  · rintro σ' H' ⟨G', δ', h', e, rh', sl', q'⟩
    exact q'.elim
theorem len_up {sp : DSp} {n : Nat} (hl : ∀ ds h QD QX, sp ds h QD QX → ds.length = n) : ∀ vs H Q E, upSp K sp vs H Q E → vs.length = n := by
  rintro vs H Q E ⟨G, F, ds, h, QD, QX, rh, rv, q, _⟩
  rw [← rv.length]
  exact hl _ _ _ _ q

/-! ### methods of lists -/
theorem e_bmL {ta : TE} {t : TA} {rm : V → List V → Hp → VK → Prop} (ho : dE K ta δ h (fun o h1 => ∃ ds, IsL h1 o ds ∧ dA K t δ h1 (fun xs h2 => dM K rm o xs h2 Q))) : dE K (tBM K "list" rm ta t) δ h Q := fun G F σ H rh sl QV k => by
  refine ho G F σ H rh sl _ ?_
  rintro v H1 ⟨G1, d, h1, e1, rh1, rv, ds, l, q⟩
  obtain ⟨p, ws, rfl, s1, r1⟩ := l.of rh1 rv
  refine ⟨Or.inl ⟨rfl, ws, s1⟩, ?_⟩
  refine q G1 F σ H1 rh1 (sl_mono e1 sl) _ ?_
  rintro vs H2 ⟨G2, xs, h2, e2, rh2, rs, q2⟩
  exact q2 G2 F H2 _ vs rh2 (rv.mono e2) rs QV fun z H3 l => k z H3 (l.up (e1.trans e2))
theorem e_bmL0 {ta : TE} {rm : V → List V → Hp → VK → Prop} (ho : dE K ta δ h (fun o h1 => ∃ ds, IsL h1 o ds ∧ dM K rm o [] h1 Q)) : dE K (tBM0 K "list" rm ta) δ h Q := fun G F σ H rh sl QV k => by
  refine ho G F σ H rh sl _ ?_
  rintro v H1 ⟨G1, d, h1, e1, rh1, rv, ds, l, q⟩
  obtain ⟨p, ws, rfl, s1, r1⟩ := l.of rh1 rv
  exact ⟨Or.inl ⟨rfl, ws, s1⟩, q G1 F H1 _ [] rh1 rv .nil QV fun z H3 l => k z H3 (l.up e1)⟩
theorem m_append {l : Addr} (e : h l = some (.lst ds)) (hz : ds.length < 100000) (q : Q .non (dupd h l (.lst (ds ++ [x])))) : dM K rAppend (.ref l) [x] h Q := fun G F H vx vs rh rx rs QV k => by
  cases rx
  cases rs with
  | cons r0 r1 =>
    cases r1
    obtain ⟨_, u, e1, e2⟩ := rh.own _ _ e
    obtain ⟨ws, rfl, rw'⟩ := rpo_lst e2
    refine ⟨l, ws, _, rfl, rfl, e1, Evl.sz_lt (by rw [← rw'.length]; exact hz), k _ _ ⟨G, .non, _, Ex.refl G, rh.write e (o := .lst (ds ++ [x])) (u := .lst (ws ++ [_])) (rw'.append (.cons r0 .nil)), .non, q⟩⟩
end
end DL
set_option maxHeartbeats 4000000
/-! DL: a tuple once, a tuple never. -/
namespace L2
open PySem PySem.Spec PyProof.Rows
theorem tuple_mul1 (l : Addr) (items : Array Value) (n : Nat) (dd : Option Addr) (sl : Array (Option Value)) (u : Tok) :
    Meets (Builtin.«tuple.__mul__» ⟨[.ref l, .int 1 u], []⟩) (fun _ R s => s.heap.get? l = some { cls := .type "tuple", dict := dd, data := .seq items n, slots := sl } ∧
      R (.ok (.ret (Value.ref l))) s) :=
  .of_wp fun prog w A R s h => by
    obtain ⟨hp, g, d, tk, os⟩ := s
    obtain ⟨hl, h⟩ := h
    have f1 := AutoSeq1.idx_int
    have c0 : (decide ((1 : Int) < -(2 ^ 63)) || decide ((1 : Int) ≥ 2 ^ 63)) = false := by decide
    have c1 : (items.isEmpty || (1 : Int) == 1) = true := by simp
    have hT : Shared.TypeIs ⟨hp, g, d, tk, os⟩ (.ref l) "tuple" := ⟨_, hl, rfl⟩
    wp_walk using wpAny_loadPart' hl
    repeat (first
      | (refine wpAny_ite_false (decide_eq_false (by rw [c0]; exact Bool.false_ne_true)) ?_; wp_walk using wpAny_loadPart' hl)
      | (refine wpAny_ite_true (decide_eq_true c1) ?_; wp_walk using wpAny_loadPart' hl, wpAny_typeOf hT))
    exact ⟨_, rfl, h⟩
theorem tuple_mul0 (l : Addr) (items : Array Value) (n : Nat) (dd : Option Addr) (sl : Array (Option Value)) (x : Int) (u : Tok) (c0 : (decide (x < -(2 ^ 63)) || decide (x ≥ 2 ^ 63)) = false) (c1 : (items.isEmpty || x == 1) = false) (c2 : (decide (x ≤ 0) || items.isEmpty) = true) :
    Meets (Builtin.«tuple.__mul__» ⟨[.ref l, .int x u], []⟩) (fun _ R s => s.heap.get? l = some { cls := .type "tuple", dict := dd, data := .seq items n, slots := sl } ∧
      R (.ok (.ret (Value.ref s.heap.objs.size))) { s with heap := s.heap.push { cls := Value.type "tuple", data := Data.seq #[] }, toks := s.toks }) :=
  .of_wp fun prog w A R s h => by
    obtain ⟨hp, g, d, tk, os⟩ := s
    obtain ⟨hl, h⟩ := h
    have f1 := AutoSeq1.idx_int
    wp_walk using wpAny_loadPart' hl
    repeat (first
      | (refine wpAny_ite_false (decide_eq_false (by rw [c0]; exact Bool.false_ne_true)) ?_; wp_walk using wpAny_loadPart' hl)
      | (refine wpAny_ite_false (decide_eq_false (by rw [c1]; exact Bool.false_ne_true)) ?_; wp_walk using wpAny_loadPart' hl)
      | (refine wpAny_ite_true (decide_eq_true c2) ?_; wp_walk using wpAny_loadPart' hl))
    exact ⟨_, rfl, h⟩
end L2
set_option maxHeartbeats 2000000
/-! DL: operators of any kind of value. -/
namespace L2
open PySem PySem.Spec PyProof.Rows
/-- tuple * k, k any small number -/
def rRepTA (K : PySem.W.Frag) : R2 := fun x y H Q => ∃ l k xs, x = .ref l ∧ y = .int k ∧ SqT K H l xs ∧ xs ≠ [] ∧ -1000 ≤ k ∧ k ≤ 1000 ∧ xs.length ≤ 1000 ∧ (k = 1 → Q (.ref l) H) ∧
  (k ≠ 1 → ∀ p, H p = none → Q (.ref p) (upd H p (.tup (List.replicate k.toNat xs).flatten)))
section
variable {X : Cx}
theorem op_repTA : OpR X (binaryOp .Mult) (rRepTA X.K) := by
  intro pins s σ H x y v u Q I rx ry h
  obtain ⟨l, k, xs, rfl, rfl, hT, hne, hk0, hk1, hz, q1, q2⟩ := h
  by_cases h2 : 2 ≤ k
  · exact op_repT pins s σ H _ _ v u Q I rx ry ⟨l, k, xs, rfl, rfl, hT, hne, h2, hk1, hz, q2 (by omega)⟩
  cases rx
  obtain ⟨t, rfl⟩ := ry
  obtain ⟨its, r, ⟨⟨cls, dd, data, sl⟩, ho, hc, n, hd⟩, hs⟩ := I.tuple hT
  simp only at hc hd
  subst hc hd
  have hle : its.length = xs.length := r.length.symm
  have hn : its ≠ [] := fun e => hne (by
    rw [e] at hle
    exact List.eq_nil_of_length_eq_zero hle.symm)
  have hi : its.toArray.isEmpty = false := by
    cases its with
    | nil => exact absurd rfl hn
    | cons a b => rfl
  by_cases e1 : k = 1
  · subst e1
    exact wpAny_binaryOp_repeat_ref (T := "tuple") (U := "int") (by decide) ⟨_, ho, rfl⟩ (fun s' => typeIs_int s' 1 t) noFill_tuple_mul F.fills_int_mul F.slot_int_rmul repeat_tuple F.slot_int_index.lookup
      (call_meets F.slot_int_rmul (typeIs_int s 1 t) F.entry_int_rmul (F.args_int_rmul_2 _ _) (int_rmul_tuple 1 t l its.toArray n dd sl)
        ⟨ho, rfl, ⟨_, ho, rfl⟩, call_meets F.slot_tuple_mul ⟨_, ho, rfl⟩ F.entry_tuple_mul (F.args_tuple_mul_2 _ _) (tuple_mul1 l its.toArray n dd sl t) ⟨ho, ⟨.ref l, H, I, rfl, q1 rfl⟩⟩⟩)
  · have c0 : (decide (k < -(2 ^ 63)) || decide (k ≥ 2 ^ 63)) = false := by
      rw [decide_eq_false (by omega), decide_eq_false (by omega)] <;> rfl
    have c1 : (its.toArray.isEmpty || k == 1) = false := by
      rw [hi, Bool.false_or]
      exact beq_eq_false_iff_ne.mpr e1
    have c2 : (decide (k ≤ 0) || its.toArray.isEmpty) = true := by
      rw [hi, Bool.or_false]
      exact decide_eq_true (by omega)
    have ez : k.toNat = 0 := by omega
    have q := q2 e1
    rw [ez] at q
    refine wpAny_binaryOp_repeat_ref (T := "tuple") (U := "int") (by decide) ⟨_, ho, rfl⟩ (fun s' => typeIs_int s' k t) noFill_tuple_mul F.fills_int_mul F.slot_int_rmul repeat_tuple F.slot_int_index.lookup
      (call_meets F.slot_int_rmul (typeIs_int s k t) F.entry_int_rmul (F.args_int_rmul_2 _ _) (int_rmul_tuple k t l its.toArray n dd sl)
        ⟨ho, rfl, ⟨_, ho, rfl⟩, call_meets F.slot_tuple_mul ⟨_, ho, rfl⟩ F.entry_tuple_mul (F.args_tuple_mul_2 _ _) (tuple_mul0 l its.toArray n dd sl k t c0 c1 c2) ⟨ho, ?_⟩⟩)
    refine ⟨.ref s.heap.objs.size, _, I.laid (t' := s.toks) (o := .tup []) (fun b ob q => Heap.get?_push_of_some _ q) (Nat.le_refl _) ?_, rfl, q _ (I.hok.fresh (Nat.le_refl _))⟩
    exact ⟨by rw [sizeLine_eq]; decide, _, .nil, IsTup.new _ _⟩
end
end L2

namespace DL
open PySem L2 RZ
open Evl (Ex)
theorem hu64 {A : Around} {k : Nat} (hr : Room k A) : A.units + 64 < cLine := by have := hr.un; omega
/-! ### operators -/
def rIAdd : R2 := rI0 fun i j => .int (i + j)
def rStrCat : R2 := fun x y H Q => ∃ i j, x = .str i ∧ y = .str j ∧ i.length + j.length ≤ sizeLine ∧ Q (.str (i ++ j)) H
def rAddX (K : PySem.W.Frag) : R2 := fun x y H Q => rIAdd x y H Q ∨ (rCat x y H Q ∨ (rCatA K x y H Q ∨ rStrCat x y H Q))
theorem op_addX {X : Cx} : OpR X (binaryOp .Add) (rAddX X.K) := op_add.or (op_cat.or (op_catA.or op_add_str))
def rIMul : R2 := rI CMul fun i j => .int (i * j)
def rMulX (K : PySem.W.Frag) : R2 := fun x y H Q => rIMul x y H Q ∨ (rRep x y H Q ∨ rRepTA K x y H Q)
theorem op_mulX' {X : Cx} : OpR X (binaryOp .Mult) (rMulX X.K) := op_mul.or (op_rep.or op_repTA)
def rISub : R2 := rI0 fun i j => .int (i - j)
theorem op_subX {X : Cx} : OpR X (binaryOp .Sub) rISub := op_sub
def rIDiv : R2 := rI CDivN fun i j => .int (i.fdiv j)
theorem op_divX {X : Cx} : OpR X (binaryOp .FloorDiv) rIDiv := op_fdivN
def rIMod : R2 := rI (fun _ j => j ≠ 0) fun i j => .int (i.fmod j)
theorem op_modX {X : Cx} : OpR X (binaryOp .Mod) rIMod := op_modN
def rIPow : R2 := rI CPow fun i j => .int (i ^ j.toNat)
theorem op_powX {X : Cx} : OpR X (binaryOp .Pow) rIPow := op_pow
def rILt : R2 := rI0 fun i j => .bl (decide (i < j))
def rILe : R2 := rI0 fun i j => .bl (decide (i ≤ j))
def rIGt : R2 := rI0 fun i j => .bl (decide (j < i))
def rIGe : R2 := rI0 fun i j => .bl (decide (j ≤ i))
def rLtX (K : PySem.W.Frag) : R2 := fun x y H Q => rILt x y H Q ∨ rLtT K x y H Q
theorem op_ltX {X : Cx} (hu : X.A.units + 64 < cLine) : OpR X (compareOp .Lt) (rLtX X.K) := op_lt.or (op_ltT (by omega))
theorem op_leX {X : Cx} : OpR X (compareOp .LtE) rILe := op_le
theorem op_gtX {X : Cx} : OpR X (compareOp .Gt) rIGt := op_gt
theorem op_geX {X : Cx} : OpR X (compareOp .GtE) rIGe := op_ge
def rEqX (K : PySem.W.Frag) : R2 := fun x y H Q => rEq x y H Q ∨ rEqD K x y H Q
theorem op_eqX {X : Cx} (hu : X.A.units + 64 < cLine) : OpR X (compareOp .Eq) (rEqX X.K) := op_eq.or (op_eqD hu)
def rNeX (K : PySem.W.Frag) : R2 := fun x y H Q => rNe x y H Q ∨ rNeD K x y H Q
theorem op_neX {X : Cx} (hu : X.A.units + 64 < cLine) : OpR X (compareOp .NotEq) (rNeX X.K) := op_ne.or (op_neD hu)
def rLenS2 (K : PySem.W.Frag) : List V → Hp → VK → Prop := fun xs H Q => ∃ z, xs = [.str z] ∧ z.length ≤ sizeLine ∧ Q (.int z.length) H
def rLenD2 (K : PySem.W.Frag) : List V → Hp → VK → Prop := fun xs H Q => ∃ a kvs, xs = [V.ref a] ∧ H a = some (.dK kvs) ∧ Q (.int kvs.length) H
def rLenX (K : PySem.W.Frag) : List V → Hp → VK → Prop := fun xs H Q => Evl.rLenS K xs H Q ∨ (rLenS2 K xs H Q ∨ rLenD2 K xs H Q)
theorem CallR.or {X : Cx} {f : Value} {r r' : List V → Hp → VK → Prop} (h : CallR X f r) (h' : CallR X f r') : CallR X f (fun xs H Q => r xs H Q ∨ r' xs H Q) := by
  intro pins s σ H xs us Q I rs q
  rcases q with q | q
  · exact h pins s σ H xs us Q I rs q
  · exact h' pins s σ H xs us Q I rs q
theorem call_lenX {X : Cx} : CallR X (.builtin "len") (rLenX X.K) := CallR.or (r := Evl.rLenS X.K) (r' := fun xs H Q => rLenS2 X.K xs H Q ∨ rLenD2 X.K xs H Q) call_len_seq (CallR.or (r := rLenS2 X.K) (r' := rLenD2 X.K) call_len_str call_lenD)
def rIsiX (K : PySem.W.Frag) : List V → Hp → VK → Prop := fun xs H Q => rIsi K xs H Q ∨ rIsiT K xs H Q
theorem call_isiX {X : Cx} : CallR X (.builtin "isinstance") (rIsiX X.K) := CallR.or call_isi call_isiT
theorem call_listX {X : Cx} : CallR X (.type "list") (Evl.rListS X.K) := call_list_of
def rAbs1 : List V → Hp → VK → Prop := fun xs H Q => ∃ i, xs = [.int i] ∧ Q (.int (if i < 0 then -i else i)) H
theorem call_absX {X : Cx} : CallR X (.builtin "abs") rAbs1 := call_abs
def rMax2' : List V → Hp → VK → Prop := fun xs H Q => ∃ i j, xs = [.int i, .int j] ∧ Q (.int (if j > i then j else i)) H
def rMin2' : List V → Hp → VK → Prop := fun xs H Q => ∃ i j, xs = [.int i, .int j] ∧ Q (.int (if j < i then j else i)) H
theorem call_maxX {X : Cx} (hc : X.calm = true) : CallR X (.builtin "max") rMax2' := call_max2 hc
theorem call_minX {X : Cx} (hc : X.calm = true) : CallR X (.builtin "min") rMin2' := call_min2 hc

section
variable {K : PySem.W.Frag} {G G' F H H' : Hp} {h h' : DH} {Q : DK} {Q' : List D → DH → Prop} {δ : DSt} {d x y z : D} {ds xs : List D} {ta tb tc te tl : TE} {t u c : TT} {E : DEnds} {ts tu tw : TS} {a p : Addr} {i : Nat} {r r' : R2} {wi : TI} {g : TG} {tt : TT}
theorem r_addI {n m : Int} (q : Q (.int (n + m)) h) : dR K (rAddX K) (.int n) (.int m) h Q := fun G F H vx vy rh rx ry QV k => Or.inl (r_I0 (fun _ => .int _) q G F H vx vy rh rx ry QV k)
theorem r_addS {n m : Str} (hl : n.length + m.length ≤ 100000) (q : Q (.str (n ++ m)) h) : dR K (rAddX K) (.str n) (.str m) h Q := fun G F H vx vy rh rx ry QV k => by
  cases rx; cases ry
  exact Or.inr (Or.inr (Or.inr ⟨n, m, rfl, rfl, Evl.sz_of hl, k _ _ (.of rh (.str _) q)⟩))
/-- lists that are frozen or owned -/
inductive IsM (h : DH) : D → List D → Prop
  | frz (ds : List D) : IsM h (.lst ds) ds
  | own {a : Addr} {ds : List D} (e : h a = some (.lst ds)) : IsM h (.ref a) ds
theorem IsM.of (l : IsM h x ds) (rh : RH K G F h H) {v : V} (r : Rp K G x v) : ∃ p vs, v = .ref p ∧ H p = some (.lst vs) ∧ Rps K G ds vs := by
  cases l with
  | frz =>
    cases r with
    | lst hs r => exact ⟨_, _, rfl, rh.ex _ _ hs, r⟩
  | own e =>
    cases r
    obtain ⟨_, u, e2, e3⟩ := rh.own _ _ e
    obtain ⟨vs, rfl, rv⟩ := rpo_lst e3
    exact ⟨_, vs, rfl, e2, rv⟩
theorem r_addL {es : List D} (l : IsM h x ds) (m : IsM h y es) (hl : ds.length + es.length ≤ 100000) (q : Q (.lst (ds ++ es)) h) : dR K (rAddX K) x y h Q := fun G F H vx vy rh rx ry QV k => by
  obtain ⟨p, vs, rfl, h1, r1⟩ := l.of rh rx
  obtain ⟨p2, ws, rfl, h2, r2⟩ := m.of rh ry
  refine Or.inr (Or.inl ⟨p, p2, vs, ws, rfl, rfl, h1, h2, Evl.sz_of (by rw [← r1.length, ← r2.length]; exact hl), fun p' hp => ?_⟩)
  obtain ⟨ex, rh2, gp, _⟩ := rh.grow hp (.lst (vs ++ ws))
  exact k _ _ ⟨_, _, h, ex, rh2, .lst gp ((r1.append r2).mono ex), q⟩
theorem r_addLO {es : List D} (l : IsM h x ds) (m : IsM h y es) (hl : ds.length + es.length ≤ 100000) (q : ∀ p, h p = none → Q (.ref p) (dupd h p (.lst (ds ++ es)))) : dR K (rAddX K) x y h Q := fun G F H vx vy rh rx ry QV k => by
  obtain ⟨p, vs, rfl, h1, r1⟩ := l.of rh rx
  obtain ⟨p2, ws, rfl, h2, r2⟩ := m.of rh ry
  refine Or.inr (Or.inl ⟨p, p2, vs, ws, rfl, rfl, h1, h2, Evl.sz_of (by rw [← r1.length, ← r2.length]; exact hl), fun p' hp => ?_⟩)
  obtain ⟨hh, rh2⟩ := rh.alloc hp (o := .lst (ds ++ es)) (u := .lst (vs ++ ws)) (r1.append r2)
  exact k _ _ ⟨_, _, _, Ex.refl G, rh2, .ref p', q p' hh⟩
theorem r_addT {es : List D} (hl : ds.length + es.length ≤ 100000) (q : Q (.tup (ds ++ es)) h) : dR K (rAddX K) (.tup ds) (.tup es) h Q := fun G F H vx vy rh rx ry QV k => by
  cases rx with
  | tup s1 r1 =>
    cases ry with
    | tup s2 r2 =>
      refine Or.inr (Or.inr (Or.inl ⟨_, _, _, _, rfl, rfl, Evl.ex_t rh.ex s1, Evl.ex_t rh.ex s2, Evl.sz_of (by rw [← r1.length, ← r2.length]; exact hl), fun e => ?_, fun e e2 => ?_, fun e e2 p' hp => ?_⟩))
      · have e' := r1.nil_iff.mp e
        subst e'
        exact k _ _ (.of rh (.tup s2 r2) q)
      · have e' := r2.nil_iff.mp e2
        subst e'
        rw [List.append_nil] at q
        exact k _ _ (.of rh (.tup s1 r1) q)
      · obtain ⟨ex, rh2, gp, _⟩ := rh.grow hp (.tup _)
        exact k _ _ ⟨_, _, h, ex, rh2, .tup (Or.inl (Or.inl gp)) ((r1.append r2).mono ex), q⟩
theorem r_mulI {n m : Int} (hc : CMul n m) (q : Q (.int (n * m)) h) : dR K (rMulX K) (.int n) (.int m) h Q := fun G F H vx vy rh rx ry QV k => Or.inl (r_I (fun _ => .int _) hc q G F H vx vy rh rx ry QV k)
theorem rps_rep {vs : List V} (r : Rps K G ds vs) : ∀ n : Nat, Rps K G (List.replicate n ds).flatten (List.replicate n vs).flatten
  | 0 => .nil
  | n + 1 => by
    rw [List.replicate_succ, List.replicate_succ, List.flatten_cons, List.flatten_cons]
    exact r.append (rps_rep r n)
theorem r_mulT {n : Int} (hn : -1000 ≤ n ∧ n ≤ 1000) (hd : ds ≠ []) (hl : ds.length ≤ 1000) (q : Q (.tup (List.replicate n.toNat ds).flatten) h) : dR K (rMulX K) (.tup ds) (.int n) h Q := fun G F H vx vy rh rx ry QV k => by
  cases rx with
  | tup s1 r1 =>
    cases ry
    refine Or.inr (Or.inr ⟨_, n, _, rfl, rfl, Evl.ex_t rh.ex s1, fun e => hd (r1.nil_iff.mp e), hn.1, hn.2, by rw [← r1.length]; exact hl, fun e => ?_, fun e p' hp => ?_⟩)
    · subst e
      have e2 : (List.replicate (1 : Int).toNat ds).flatten = ds := by simp
      rw [e2] at q
      exact k _ _ (.of rh (.tup s1 r1) q)
    · obtain ⟨ex, rh2, gp, _⟩ := rh.grow hp (.tup _)
      exact k _ _ ⟨_, _, h, ex, rh2, .tup (Or.inl (Or.inl gp)) ((rps_rep r1 _).mono ex), q⟩
theorem r_mulL {n : Int} (l : IsM h x ds) (hn : -1000 ≤ n ∧ n ≤ 1000) (hl : ds.length ≤ 100) (q : ∀ p, h p = none → Q (.ref p) (dupd h p (.lst (List.replicate n.toNat ds).flatten))) : dR K (rMulX K) x (.int n) h Q := fun G F H vx vy rh rx ry QV k => by
  obtain ⟨p, vs, rfl, h1, r1⟩ := l.of rh rx
  cases ry
  refine Or.inr (Or.inl ⟨p, n, vs, rfl, rfl, h1, by omega, by omega, Evl.sz_of ?_, fun p' hp => ?_⟩)
  · rw [← r1.length]
    have := Nat.mul_le_mul hl (show n.toNat ≤ 1000 by omega)
    omega
  · obtain ⟨hh, rh2⟩ := rh.alloc hp (o := .lst _) (u := .lst _) (rps_rep r1 n.toNat)
    exact k _ _ ⟨_, _, _, Ex.refl G, rh2, .ref p', q p' hh⟩
theorem r_subI {n m : Int} (q : Q (.int (n - m)) h) : dR K rISub (.int n) (.int m) h Q := r_I0 (fun _ => .int _) q
theorem r_divI {n m : Int} (hm : 0 < m) (hb : m < 1073741824) (q : Q (.int (n / m)) h) : dR K rIDiv (.int n) (.int m) h Q := by
  refine r_I (fun _ => .int _) ⟨by omega, by omega⟩ ?_
  rw [Int.fdiv_eq_ediv_of_nonneg _ (by omega)]
  exact q
theorem r_modI {n m : Int} (hm : 0 < m) (q : Q (.int (n % m)) h) : dR K rIMod (.int n) (.int m) h Q := by
  refine r_I (fun _ => .int _) (by omega) ?_
  rw [Int.fmod_eq_emod_of_nonneg _ (by omega)]
  exact q
theorem r_powI {n m : Int} (hm : 0 ≤ m ∧ m ≤ 1000000 ∧ n.natAbs < 2 ^ 64) (q : Q (.int (n ^ m.toNat)) h) : dR K rIPow (.int n) (.int m) h Q := r_I (fun _ => .int _) hm q
theorem r_ltI {n m : Int} (q : Q (.bl (decide (n < m))) h) : dR K (rLtX K) (.int n) (.int m) h Q := fun G F H vx vy rh rx ry QV k => Or.inl (r_I0 (fun _ => .bl _) q G F H vx vy rh rx ry QV k)
theorem r_ltT {ns ms : List Int} (q : Q (.bl (HT.lexLt ns ms)) h) : dR K (rLtX K) (.tup (ns.map .int)) (.tup (ms.map .int)) h Q := fun G F H vx vy rh rx ry QV k => by
  cases rx with
  | tup s1 r1 =>
    cases ry with
    | tup s2 r2 =>
      have e1 := r1.ints
      have e2 := r2.ints
      subst e1; subst e2
      exact Or.inr ⟨_, _, ns, ms, rfl, rfl, Evl.ex_t rh.ex s1, Evl.ex_t rh.ex s2, k _ _ (.of rh (.bl _) q)⟩
theorem r_leI {n m : Int} (q : Q (.bl (decide (n ≤ m))) h) : dR K rILe (.int n) (.int m) h Q := r_I0 (fun _ => .bl _) q
theorem r_gtI {n m : Int} (q : Q (.bl (decide (m < n))) h) : dR K rIGt (.int n) (.int m) h Q := r_I0 (fun _ => .bl _) q
theorem r_geI {n m : Int} (q : Q (.bl (decide (m ≤ n))) h) : dR K rIGe (.int n) (.int m) h Q := r_I0 (fun _ => .bl _) q
theorem r_eqII {n m : Int} (q : Q (.bl (decide (n = m))) h) : dR K (rEqX K) (.int n) (.int m) h Q := fun G F H vx vy rh rx ry QV k => Or.inl (r_eqI q G F H vx vy rh rx ry QV k)
theorem r_neII {n m : Int} (q : Q (.bl (!decide (n = m))) h) : dR K (rNeX K) (.int n) (.int m) h Q := fun G F H vx vy rh rx ry QV k => Or.inl (r_neI q G F H vx vy rh rx ry QV k)
theorem r_eqSS {n m : Str} (q : Q (.bl (decide (n = m))) h) : dR K (rEqX K) (.str n) (.str m) h Q := fun G F H vx vy rh rx ry QV k => Or.inl (r_eqS q G F H vx vy rh rx ry QV k)
theorem r_neSS {n m : Str} (q : Q (.bl (!decide (n = m))) h) : dR K (rNeX K) (.str n) (.str m) h Q := fun G F H vx vy rh rx ry QV k => Or.inl (r_neS q G F H vx vy rh rx ry QV k)

mutual
inductive DPy (h : DH) : D → PyData → Prop
  | non : DPy h .non .none
  | bl (b : Bool) : DPy h (.bl b) (.bool b)
  | int (i : Int) : DPy h (.int i) (.int i)
  | str (x : Str) : DPy h (.str x) (.str x)
  | tup {ds : List D} {ps : List PyData} (r : DPys h ds ps) : DPy h (.tup ds) (.tuple ps)
  | lst {x : D} {ds : List D} {ps : List PyData} (l : IsL h x ds) (r : DPys h ds ps) : DPy h x (.list ps)
inductive DPys (h : DH) : List D → List PyData → Prop
  | nil : DPys h [] []
  | cons {d : D} {ds : List D} {p : PyData} {ps : List PyData} (a : DPy h d p) (r : DPys h ds ps) : DPys h (d :: ds) (p :: ps)
end
mutual
theorem DPy.of (rh : RH K G F h H) : ∀ {d : D} {p : PyData} {v : V}, DPy h d p → Rp K G d v → Dp K H v p
  | _, _, _, .non, r => by cases r; exact .non
  | _, _, _, .bl b, r => by cases r; exact .bl b
  | _, _, _, .int b, r => by cases r; exact .int b
  | _, _, _, .str b, r => by cases r; exact .str b
  | _, _, _, .tup q, r => by
    obtain ⟨a, vs, rfl, s1, r1⟩ := tup_of rh r
    exact .tup s1 (DPys.of rh q r1)
  | _, _, _, .lst l q, r => by
    obtain ⟨a, vs, rfl, s1, r1⟩ := l.of rh r
    exact .lst s1 (DPys.of rh q r1)
theorem DPys.of (rh : RH K G F h H) : ∀ {d : List D} {p : List PyData} {v : List V}, DPys h d p → Rps K G d v → DpAll K H v p
  | _, _, _, .nil, r => by cases r; exact .nil
  | _, _, _, .cons a q, r => by
    cases r with
    | cons r0 r1 => exact .cons (DPy.of rh a r0) (DPys.of rh q r1)
end
theorem r_eqD {p q : PyData} (hx : DPy h x p) (hy : DPy h y q) (s1 : SeqAt.shaped p = true) (s2 : SeqAt.shaped q = true) (k0 : Q (.bl (PyData.eqv p q)) h) : dR K (rEqX K) x y h Q := fun G F H vx vy rh rx ry QV k =>
  Or.inr ⟨p, q, hx.of rh rx, hy.of rh ry, s1, s2, k _ _ (.of rh (.bl _) k0)⟩
theorem r_neD {p q : PyData} (hx : DPy h x p) (hy : DPy h y q) (s1 : SeqAt.shaped p = true) (s2 : SeqAt.shaped q = true) (k0 : Q (.bl (!PyData.eqv p q)) h) : dR K (rNeX K) x y h Q := fun G F H vx vy rh rx ry QV k =>
  Or.inr ⟨p, q, hx.of rh rx, hy.of rh ry, s1, s2, k _ _ (.of rh (.bl _) k0)⟩
/-! ### calls -/
theorem c_lenX (l : IsS h x ds) (q : Q (.int (ds.length : Int)) h) : dC K (rLenX K) [x] h Q := fun G F H vs rh rs QV k => Or.inl (c_len l q G F H vs rh rs QV k)
theorem c_lenStr {n : Str} (hl : n.length ≤ 100000) (q : Q (.int (n.length : Int)) h) : dC K (rLenX K) [.str n] h Q := fun G F H vs rh rs QV k => by
  cases rs with
  | cons r0 r1 =>
    cases r1; cases r0
    exact Or.inr (Or.inl ⟨n, rfl, Evl.sz_of hl, k _ _ (.of rh (.int _) q)⟩)
theorem c_absX {n : Int} (q : Q (.int (if n < 0 then -n else n)) h) : dC K rAbs1 [.int n] h Q := c_abs q
theorem c_maxX {n m : Int} (q : Q (.int (if m > n then m else n)) h) : dC K rMax2' [.int n, .int m] h Q := c_max2 q
theorem c_minX {n m : Int} (q : Q (.int (if m < n then m else n)) h) : dC K rMin2' [.int n, .int m] h Q := c_min2 q
/-- the type's name -/
inductive TyN (h : DH) : D → String → Prop
  | non : TyN h .non "NoneType"
  | bl (b : Bool) : TyN h (.bl b) "bool"
  | int (i : Int) : TyN h (.int i) "int"
  | str (x : Str) : TyN h (.str x) "str"
  | tup (ds : List D) : TyN h (.tup ds) "tuple"
  | lst {x : D} {ds : List D} (l : IsL h x ds) : TyN h x "list"
theorem tyx_l {v : V} {vs : List V} {a : Addr} (hs : SqL K H a vs) : TyX K H (.ref a) (.type "list") := by
  rcases hs with (h | ⟨o, h⟩) | ⟨o, its, n, h1, h2, _⟩
  · exact .base (.lst h)
  · exact .base (.frz h)
  · exact .kList h1 h2
theorem tyx_t {v : V} {vs : List V} {a : Addr} (hs : SqT K H a vs) : TyX K H (.ref a) (.type "tuple") := by
  rcases hs with (h | ⟨o, h⟩) | ⟨o, its, n, h1, h2, _⟩
  · exact .base (.tup h)
  · exact .fTuple h
  · exact .kTuple h1 h2
theorem TyN.of {n : String} (ty : TyN h x n) (rh : RH K G F h H) {v : V} (r : Rp K G x v) : TyX K H v (.type n) := by
  cases ty with
  | non => cases r; exact .base .non
  | bl => cases r; exact .base (.bl _)
  | int => cases r; exact .base (.int _)
  | str => cases r; exact .base (.str _)
  | tup =>
    obtain ⟨a, vs, rfl, s1, r1⟩ := tup_of rh r
    exact tyx_t (v := .non) s1
  | lst l =>
    obtain ⟨a, vs, rfl, s1, r1⟩ := l.of rh r
    exact tyx_l (v := .non) s1
theorem c_isi {n m : String} {b : Bool} (ty : TyN h x n) (e : kitB n m = some b) (q : Q (.bl b) h) : dC K (rIsiX K) [x, .ty m] h Q := fun G F H vs rh rs QV k => by
  cases rs with
  | cons r0 r1 =>
    cases r1 with
    | cons r1 r2 =>
      cases r2; cases r1
      exact Or.inl ⟨_, .ty m, _, .type m, b, rfl, .ty m, ty.of rh r0, kit_ty e, k _ _ (.of rh (.bl _) q)⟩
/-- isinstance(x, (A, B)) -/
theorem e_isi2 {m1 m2 : String} (ha : dE K ta δ h (fun x h1 => ∃ n b1 b2, TyN h1 x n ∧ kitB n m1 = some b1 ∧ kitB n m2 = some b2 ∧ Q (.bl (b1 || b2)) h1)) :
    dE K (tCB (rIsiX K) (tCons ta (tCons (tTup (tCons (tC (.ty m1)) (tCons (tC (.ty m2)) tNil))) tNil))) δ h Q := fun G F σ H rh sl QV k => by
  refine ha G F σ H rh sl _ ?_
  rintro v H1 ⟨G1, d, h1, e1, rh1, rv, n, b1, b2, ty, k1, k2, q⟩
  refine ⟨by show 2 ≤ sizeLine; rw [sizeLine_eq]; decide, fun p hp => ?_⟩
  obtain ⟨ex, rh2, gp, _⟩ := rh1.grow hp (.tup [.ty m1, .ty m2])
  refine Or.inr ⟨v, p, [.ty m1, .ty m2], .type n, [.type m1, .type m2], b1 || b2, rfl, upd_same, .cons (.ty _) (.cons (.ty _) .nil), ty.of rh2 (rv.mono ex), ?_, k _ _ ⟨_, _, h1, e1.trans ex, rh2, .bl _, q⟩⟩
  refine kitAny_cons (b := b1) (r := b1 || b2) k1 (fun e => ?_) (fun e => by rw [e]; rfl)
  refine kitAny_cons (b := b2) (r := b1 || b2) k2 (fun e2 => ?_) (fun e2 => by rw [e2, Bool.or_true])
  rw [e, e2]; rfl
/-! ### truth -/
inductive Tru (h : DH) : D → Bool → Prop
  | non : Tru h .non false
  | bl (b : Bool) : Tru h (.bl b) b
  | int (i : Int) : Tru h (.int i) (i != 0)
  | str {x : Str} (e : x.length ≤ 100000) : Tru h (.str x) ((x.length : Int) != 0)
  | lst {x : D} {ds : List D} (l : IsL h x ds) : Tru h x (!ds.isEmpty)
  | tup (ds : List D) : Tru h (.tup ds) (!ds.isEmpty)
theorem rps_empty {vs : List V} (r : Rps K G ds vs) : (!ds.isEmpty) = !vs.isEmpty := by cases r <;> rfl
theorem Tru.of {b : Bool} (t : Tru h x b) (rh : RH K G F h H) {v : V} (r : Rp K G x v) : TruV K v H b := by
  cases t with
  | non => cases r; rfl
  | bl => cases r; rfl
  | int => cases r; rfl
  | str e => cases r; exact ⟨Evl.sz_of e, rfl⟩
  | tup =>
    obtain ⟨a, vs, rfl, s1, r1⟩ := tup_of rh r
    exact Or.inr (Or.inl ⟨vs, s1, rps_empty r1⟩)
  | lst l =>
    obtain ⟨a, vs, rfl, s1, r1⟩ := l.of rh r
    exact Or.inl ⟨vs, s1, rps_empty r1⟩
theorem t_tru {Q : Bool → DH → Prop} (ha : dE K ta δ h (fun x h1 => ∃ b, Tru h1 x b ∧ Q b h1)) : dT K (tTru K ta) δ h Q := fun G F σ H rh sl QV k => by
  refine ha G F σ H rh sl _ ?_
  rintro v H1 ⟨G1, d, h1, e1, rh1, rv, b, tr, q⟩
  exact ⟨b, tr.of rh1 rv, k _ _ ⟨G1, h1, e1, rh1, q⟩⟩
theorem e_orT (ha : dE K ta δ h (fun x h1 => ∃ b, Tru h1 x b ∧ (b = false → dE K tb δ h1 Q) ∧ (b = true → Q x h1))) : dE K (tOrT K ta tb) δ h Q := fun G F σ H rh sl QV k => by
  refine ha G F σ H rh sl _ ?_
  rintro v H1 ⟨G1, d, h1, e1, rh1, rv, b, tr, q1, q2⟩
  refine ⟨b, tr.of rh1 rv, ?_⟩
  cases b with
  | false => rw [if_neg Bool.false_ne_true]; exact q1 rfl G1 F σ H1 rh1 (sl_mono e1 sl) QV fun z H3 l => k z H3 (l.up e1)
  | true => rw [if_pos rfl]; exact k _ _ (LV.up e1 (.of rh1 rv (q2 rfl)))
theorem e_andT (ha : dE K ta δ h (fun x h1 => ∃ b, Tru h1 x b ∧ (b = true → dE K tb δ h1 Q) ∧ (b = false → Q x h1))) : dE K (tAndT K ta tb) δ h Q := fun G F σ H rh sl QV k => by
  refine ha G F σ H rh sl _ ?_
  rintro v H1 ⟨G1, d, h1, e1, rh1, rv, b, tr, q1, q2⟩
  refine ⟨b, tr.of rh1 rv, ?_⟩
  cases b with
  | true => rw [if_pos rfl]; exact q1 rfl G1 F σ H1 rh1 (sl_mono e1 sl) QV fun z H3 l => k z H3 (l.up e1)
  | false => rw [if_neg Bool.false_ne_true]; exact k _ _ (LV.up e1 (.of rh1 rv (q2 rfl)))
theorem e_notT (ha : dE K ta δ h (fun x h1 => ∃ b, Tru h1 x b ∧ Q (.bl (!b)) h1)) : dE K (tNotT K ta) δ h Q := fun G F σ H rh sl QV k => by
  refine ha G F σ H rh sl _ ?_
  rintro v H1 ⟨G1, d, h1, e1, rh1, rv, b, tr, q1⟩
  exact ⟨b, tr.of rh1 rv, k _ _ (LV.up e1 (.of rh1 (.bl _) q1))⟩
end
end DL
set_option maxHeartbeats 2000000
namespace DL
open PySem L2 RZ
open Evl (Ex)
theorem nt_t (e : (!true) = true) : False := Bool.noConfusion e
theorem nf_f (e : (!false) = false) : False := Bool.noConfusion e
def rIntX : List V → Hp → VK → Prop := r_int1
theorem call_intX {X : Cx} : CallR X (.type "int") rIntX := call_int1
def rSlX (K : PySem.W.Frag) : V → Option Int → Option Int → Hp → VK → Prop := fun x lo hi H Q => rSlL K x lo hi H Q ∨ rSlT K x lo hi H Q
theorem sl_X {X : Cx} : SlR X (rSlX X.K) := sl_list.or sl_tup
/-- what isinstance says, by the types' names -/
theorem kt_None_int : kitB "NoneType" "int" = some false := by decide +kernel
theorem kt_None_bool : kitB "NoneType" "bool" = some false := by decide +kernel
theorem kt_None_list : kitB "NoneType" "list" = some false := by decide +kernel
theorem kt_None_tuple : kitB "NoneType" "tuple" = some false := by decide +kernel
theorem kt_None_str : kitB "NoneType" "str" = some false := by decide +kernel
theorem kt_bool_int : kitB "bool" "int" = some true := by decide +kernel
theorem kt_bool_bool : kitB "bool" "bool" = some true := by decide +kernel
theorem kt_bool_list : kitB "bool" "list" = some false := by decide +kernel
theorem kt_bool_tuple : kitB "bool" "tuple" = some false := by decide +kernel
theorem kt_bool_str : kitB "bool" "str" = some false := by decide +kernel
theorem kt_int_int : kitB "int" "int" = some true := by decide +kernel
theorem kt_int_bool : kitB "int" "bool" = some false := by decide +kernel
theorem kt_int_list : kitB "int" "list" = some false := by decide +kernel
theorem kt_int_tuple : kitB "int" "tuple" = some false := by decide +kernel
theorem kt_int_str : kitB "int" "str" = some false := by decide +kernel
theorem kt_str_int : kitB "str" "int" = some false := by decide +kernel
theorem kt_str_bool : kitB "str" "bool" = some false := by decide +kernel
theorem kt_str_list : kitB "str" "list" = some false := by decide +kernel
theorem kt_str_tuple : kitB "str" "tuple" = some false := by decide +kernel
theorem kt_str_str : kitB "str" "str" = some true := by decide +kernel
theorem kt_list_int : kitB "list" "int" = some false := by decide +kernel
theorem kt_list_bool : kitB "list" "bool" = some false := by decide +kernel
theorem kt_list_list : kitB "list" "list" = some true := by decide +kernel
theorem kt_list_tuple : kitB "list" "tuple" = some false := by decide +kernel
theorem kt_list_str : kitB "list" "str" = some false := by decide +kernel
theorem kt_tuple_int : kitB "tuple" "int" = some false := by decide +kernel
theorem kt_tuple_bool : kitB "tuple" "bool" = some false := by decide +kernel
theorem kt_tuple_list : kitB "tuple" "list" = some false := by decide +kernel
theorem kt_tuple_tuple : kitB "tuple" "tuple" = some true := by decide +kernel
theorem kt_tuple_str : kitB "tuple" "str" = some false := by decide +kernel
section
variable {K : PySem.W.Frag} {G G' F H H' : Hp} {h h' : DH} {Q : DK} {δ : DSt} {d x y z : D} {ds xs : List D} {ta tb tc te tl : TE} {t u c : TT} {ts tu tw : TS} {a p : Addr} {i : Nat} {r r' : R2} {wi : TI} {g : TG} {tt : TT}
theorem c_intX {b : Bool} (q : Q (.int (if b then 1 else 0)) h) : dC K rIntX [.bl b] h Q := c_intB q
/-! ### slices -/
def dO (K : PySem.W.Frag) (to : TO) (δ : DSt) (h : DH) (Q : Option Int → DH → Prop) : Prop := ∀ G F σ H, RH K G F h H → Sl K G δ σ → ∀ QV : Option Int → Hp → Prop, (∀ o H', (∃ G' h', Ex G G' ∧ RH K G' F h' H' ∧ Q o h') → QV o H') → to σ H QV
theorem o_none {Q : Option Int → DH → Prop} (q : Q none h) : dO K tNoPart δ h Q := fun G F σ H rh sl QV k => k _ _ ⟨G, h, Ex.refl G, rh, q⟩
theorem o_some {Q : Option Int → DH → Prop} (hl : dE K te δ h (fun d h1 => ∃ n, d = .int n ∧ Q (some n) h1)) : dO K (tPart te) δ h Q := fun G F σ H rh sl QV k => by
  refine hl G F σ H rh sl _ ?_
  rintro v H1 ⟨G1, d, h1, e1, rh1, rv, n, rfl, q⟩
  cases rv
  exact ⟨n, rfl, k _ _ ⟨G1, h1, e1, rh1, q⟩⟩
def cutD (ds : List D) (lo hi : Option Int) : List D := (ds.drop (HT.sIx ds.length 0 lo)).take (HT.sIx ds.length ds.length hi - HT.sIx ds.length 0 lo)
theorem Rps.cut {vs : List V} (r : Rps K G ds vs) (lo hi : Option Int) : Rps K G (cutD ds lo hi) (cutV vs lo hi) := by
  unfold cutD cutV
  rw [← r.length]
  exact (r.drop _).take _
/-- x[lo:hi] of a list (frozen, the new one too), of a tuple (not the whole) -/
theorem e_slL {tl th : TO} (ha : dE K ta δ h (fun x h1 => dO K tl δ h1 (fun lo h2 => dO K th δ h2 (fun hi h3 => ∃ ds, IsL h3 x ds ∧ Q (.lst (cutD ds lo hi)) h3)))) : dE K (L2.tSl (rSlX K) ta tl th) δ h Q := fun G F σ H rh sl QV k => by
  refine ha G F σ H rh sl _ ?_
  rintro v H1 ⟨G1, d, h1, e1, rh1, rv, q⟩
  refine q G1 F σ H1 rh1 (sl_mono e1 sl) _ ?_
  rintro lo H2 ⟨G2, h2, e2, rh2, q2⟩
  refine q2 G2 F σ H2 rh2 (sl_mono (e1.trans e2) sl) _ ?_
  rintro hi H3 ⟨G3, h3, e3, rh3, ds, l, q3⟩
  obtain ⟨p, vs, rfl, s1, r1⟩ := l.of rh3 (rv.mono (e2.trans e3))
  refine Or.inl ⟨p, vs, rfl, s1, fun p' hp => ?_⟩
  obtain ⟨ex, rh4, gp, _⟩ := rh3.grow hp (.lst (cutV vs lo hi))
  exact k _ _ ⟨_, _, h3, (e1.trans (e2.trans e3)).trans ex, rh4, .lst gp ((r1.cut lo hi).mono ex), q3⟩
theorem e_slT {tl th : TO} (ha : dE K ta δ h (fun x h1 => dO K tl δ h1 (fun lo h2 => dO K th δ h2 (fun hi h3 => ∃ ds, x = .tup ds ∧ ¬ (HT.sIx ds.length 0 lo = 0 ∧ HT.sIx ds.length ds.length hi = ds.length) ∧ Q (.tup (cutD ds lo hi)) h3)))) : dE K (L2.tSl (rSlX K) ta tl th) δ h Q := fun G F σ H rh sl QV k => by
  refine ha G F σ H rh sl _ ?_
  rintro v H1 ⟨G1, d, h1, e1, rh1, rv, q⟩
  refine q G1 F σ H1 rh1 (sl_mono e1 sl) _ ?_
  rintro lo H2 ⟨G2, h2, e2, rh2, q2⟩
  refine q2 G2 F σ H2 rh2 (sl_mono (e1.trans e2) sl) _ ?_
  rintro hi H3 ⟨G3, h3, e3, rh3, ds, rfl, hw, q3⟩
  cases (rv.mono (e2.trans e3)) with
  | tup s1 r1 =>
    refine Or.inr ⟨_, _, rfl, Evl.ex_t rh3.ex s1, by rw [← r1.length]; exact hw, fun p' hp => ?_⟩
    obtain ⟨ex, rh4, gp, _⟩ := rh3.grow hp (.tup (cutV _ lo hi))
    exact k _ _ ⟨_, _, h3, (e1.trans (e2.trans e3)).trans ex, rh4, .tup (Or.inl (Or.inl gp)) ((r1.cut lo hi).mono ex), q3⟩
theorem m_clear {l : Addr} (e : h l = some (.lst ds)) (q : Q .non (dupd h l (.lst []))) : dM K rClear (.ref l) [] h Q := fun G F H vx vs rh rx rs QV k => by
  cases rx
  cases rs
  obtain ⟨_, u, e1, e2⟩ := rh.own _ _ e
  obtain ⟨ws, rfl, rw'⟩ := rpo_lst e2
  exact ⟨l, ws, rfl, rfl, e1, k _ _ ⟨G, .non, _, Ex.refl G, rh.write e (o := .lst []) (u := .lst []) .nil, .non, q⟩⟩
end
/-! ### data as tuples -/
mutual
def normP : PyData → PyData
  | .none => .none
  | .bool b => .bool b
  | .int i => .int i
  | .str s => .str s
  | .list xs => .tuple (normPs xs)
  | .tuple xs => .tuple (normPs xs)
  | .dict _ => .none
def normPs : List PyData → List PyData
  | [] => []
  | p :: ps => normP p :: normPs ps
end
mutual
def tupP : PyData → D
  | .none => .non
  | .bool b => .bl b
  | .int i => .int i
  | .str s => .str s
  | .list xs => .tup (tupPs xs)
  | .tuple xs => .tup (tupPs xs)
  | .dict _ => .non
def tupPs : List PyData → List D
  | [] => []
  | p :: ps => tupP p :: tupPs ps
end
mutual
theorem dpy_norm (h : DH) : ∀ p : PyData, DPy h (tupP p) (normP p)
  | .none => .non
  | .bool b => .bl b
  | .int i => .int i
  | .str s => .str s
  | .list xs => .tup (dpys_norm h xs)
  | .tuple xs => .tup (dpys_norm h xs)
  | .dict _ => .non
theorem dpys_norm (h : DH) : ∀ ps : List PyData, DPys h (tupPs ps) (normPs ps)
  | [] => .nil
  | p :: ps => .cons (dpy_norm h p) (dpys_norm h ps)
end
end DL
set_option maxHeartbeats 2000000
/-! DL: the defs of the text, the end. -/
namespace DL
open PySem PySem.Spec PyProof.Rows L2
section
variable {P : Program} {w : World} {K : PySem.W.Frag} {mg : Str → Option Value} {base : Heap} {x : Str} {st : Stmt} {f : Addr} {fd : FuncData} {N ps : List Str} {k : Nat} {sp : DSp} {t : TS}
/-- a def keeps its promise -/
theorem calD (F : FunD K x x (defArgs st) (defBody st) (defScope st) [] [] f fd) (hm : mg x = some (.ref f)) (b : Binds K fd ps []) (S : FnScope N ps (defScope st)) (len : ∀ ds h QD QX, sp ds h QD QX → ds.length = ps.length)
    (tm : ∀ (cdv : Value) (A : Around) (outer : List Env) (s : Shared) (H : Hp) (E : XK), Room k (A.deeper (envOfC x (defScope st) s.heap.objs.size f cdv)) → PSs (cxOf CX0 P w K mg base N x (defScope st) f cdv A outer s H E).nox (defBody st) t)
    (hp : ∀ ds h QD QX, sp ds h QD QX → dB K t N ds h QD) : C8.Cal P w K mg base (k + 1) x (upSp K sp) [] :=
  ⟨f, fd, ps, [], F.ok S (len_up len) fun cdv A outer s H vs Q E hr h => ⟨t, PSs.nox (tm cdv A outer s H E hr), body_ok hp vs H Q E h⟩, hm, F.kp, b, .nil⟩
theorem okD (F : FunD K x x (defArgs st) (defBody st) (defScope st) [] [] f fd) (S : FnScope N ps (defScope st)) (len : ∀ ds h QD QX, sp ds h QD QX → ds.length = ps.length)
    (tm : ∀ (cdv : Value) (A : Around) (outer : List Env) (s : Shared) (H : Hp) (E : XK), Room k (A.deeper (envOfC x (defScope st) s.heap.objs.size f cdv)) → PSs (cxOf CX0 P w K mg base N x (defScope st) f cdv A outer s H E).nox (defBody st) t)
    (hp : ∀ ds h QD QX, sp ds h QD QX → dB K t N ds h QD) : FnOk P w K mg base CX0 (k + 1) f fd ps (upSp K sp) :=
  F.ok S (len_up len) fun cdv A outer s H vs Q E hr h => ⟨t, PSs.nox (tm cdv A outer s H E hr), body_ok hp vs H Q E h⟩
def spNever : DSp := fun _ _ _ _ => False
theorem calNever (hm : mg x = some (.ref f)) (hk : PySem.W.keepIn K (.ref f) = true) (b : Binds K fd ps []) : C8.Cal P w K mg base 0 x (upSp K spNever) [] :=
  ⟨f, fd, ps, [], ⟨fun vs H Q E h => by obtain ⟨_, _, _, _, _, _, _, _, z, _⟩ := h; exact z.elim, fun A outer s H args us vs Q E hr he hb hv h => by obtain ⟨_, _, _, _, _, _, _, _, z, _⟩ := h; exact z.elim⟩, hm, hk, b, .nil⟩
/-- a whole number of the top -/
theorem intD {X : K.In base} {mg : Str → Option Value} {h : Heap} (Xh : K.In h) (G : h.Ns mainGlobals mg) {x : Str} {i : Int} (c : (He.Fa.int x i).ok K = true) : ∃ u, mg x = some u ∧ RelV (V.int i) u := by
  obtain ⟨t, e⟩ := He.int_ok Xh G c
  exact ⟨_, e, t, rfl⟩
end
/-- the script -/
theorem script_up {K : PySem.W.Frag} {sp : DSp} {H : Hp} {a : Addr} {ns : List Int} (hS : SqL K H a (ns.map V.int)) (h : ∀ QD : DK, (∀ d h', d = .bl true → QD d h') → sp [.rd (ns.map D.int)] (fun _ => none) QD X0) :
    upSp K sp [.ref a] H (fun v _ => v = .bl true) fun _ _ _ => False := by
  refine ⟨H, fun _ => none, [.rd (ns.map D.int)], fun _ => none, fun d _ => d = .bl true, X0, ⟨Evl.Ex.refl H, fun _ _ e => (nomatch (show (none : Option HO) = some _ from e)), fun _ _ e => (nomatch (show (none : Option DO) = some _ from e))⟩, .cons (.rd hS (Rps.of_ints ns)) .nil, h _ fun _ _ e => e, ?_, ?_⟩
  · rintro v H' ⟨G', d, h', e, rh, rv, rfl⟩
    cases rv
    rfl
  · rintro c d H' ⟨C, G', h', _, _, _, z⟩
    exact z.elim
end DL
set_option maxHeartbeats 2000000
/-! DL: what raises, what is caught. -/
namespace DL
open PySem PySem.Spec PyProof.Rows L2
open Evl (Ex)
abbrev DXS := Addr → Option Addr → DSt → DH → Prop
def LXS (K : PySem.W.Frag) (G F : Hp) (q : DXS) : WX := fun cls dd σ' H' => ∃ C G' δ' h', cls = .ref C ∧ Ex G G' ∧ RH K G' F h' H' ∧ Sl K G' δ' σ' ∧ q C dd δ' h'
/-- a statement that may let something out -/
def dX0 (K : PySem.W.Frag) (W : WX) (ts : TS) (E : DEnds) (q : DXS) (δ : DSt) (h : DH) : Prop := ∀ G F σ H, RH K G F h H → Sl K G δ σ → ∀ Z : Ends, LD K G F E Z → (∀ c d σ' H', LXS K G F q c d σ' H' → W c d σ' H') → ts Z σ H
def dX (K : PySem.W.Frag) (W : WX) (ts : TS) (nx : DP) (rt : DK) (bk ct : DP) (q : DXS) (δ : DSt) (h : DH) : Prop := dX0 K W ts ⟨nx, rt, bk, ct⟩ q δ h
/-- an expression that may -/
def dEX (K : PySem.W.Frag) (W : WX) (te : TE) (Q : DK) (q : DXS) (δ : DSt) (h : DH) : Prop := ∀ G F σ H, RH K G F h H → Sl K G δ σ → ∀ QV : VK, (∀ v H', LV K G F Q v H' → QV v H') → (∀ c d σ' H', LXS K G F q c d σ' H' → W c d σ' H') → te σ H QV
section
variable {K : PySem.W.Frag} {G G' F H H' : Hp} {h h' : DH} {Q : DK} {δ : DSt} {d x y z : D} {ds xs : List D} {ta tb tc te tl : TE} {t u c : TT} {E : DEnds} {ts tu tw : TS} {a p : Addr} {i : Nat} {W : WX} {q : DXS} {nx bk ct : DP} {rt : DK} {g : TG} {wi : TI}
theorem LXS.up (e : Ex G G') {c : Value} {d : Option Addr} {σ : L2.St} (l : LXS K G' F q c d σ H) : LXS K G F q c d σ H := by
  obtain ⟨C, G2, δ2, h2, e1, e2, r⟩ := l
  exact ⟨C, G2, δ2, h2, e1, e.trans e2, r⟩
/-- what lets nothing out -/
theorem x_of (s : dS K ts nx rt bk ct δ h) : dX K W ts nx rt bk ct q δ h := fun G F σ H rh sl Z l _ => s G F σ H rh sl Z l
theorem ex_of (s : dE K te δ h Q) : dEX K W te Q q δ h := fun G F σ H rh sl Z l _ => s G F σ H rh sl Z l
theorem x_seq (s : dX K W ts (dX K W tu nx rt bk ct q) rt bk ct q δ h) : dX K W (tSeq ts tu) nx rt bk ct q δ h := fun G F σ H rh sl Z l lx => by
  refine s G F σ H rh sl _ ⟨?_, l.2.1, l.2.2.1, l.2.2.2⟩ lx
  rintro σ1 H1 ⟨G1, δ1, h1, e1, rh1, sl1, q1⟩
  exact q1 G1 F σ1 H1 rh1 sl1 Z (l.up e1) fun c d σ' H' q2 => lx c d σ' H' (q2.up e1)
theorem x_if (hc : dT K c δ h (fun b h1 => (b = true → dX K W tu nx rt bk ct q δ h1) ∧ (b = false → dX K W tw nx rt bk ct q δ h1))) : dX K W (tIfS c tu tw) nx rt bk ct q δ h := fun G F σ H rh sl Z l lx => by
  refine hc G F σ H rh sl _ ?_
  rintro b H1 ⟨G1, h1, e1, rh1, q1, q2⟩
  cases b with
  | true => rw [if_pos rfl]; exact q1 rfl G1 F σ H1 rh1 (sl_mono e1 sl) Z (l.up e1) fun c d σ' H' q2 => lx c d σ' H' (q2.up e1)
  | false => rw [if_neg Bool.false_ne_true]; exact q2 rfl G1 F σ H1 rh1 (sl_mono e1 sl) Z (l.up e1) fun c d σ' H' q2 => lx c d σ' H' (q2.up e1)
theorem x_asg (he : dEX K W te (fun d h1 => dG K g d δ h1 nx) q δ h) : dX K W (tAsg te g) nx rt bk ct q δ h := fun G F σ H rh sl Z l lx => by
  refine he G F σ H rh sl _ ?_ lx
  rintro v H1 ⟨G1, d, h1, e1, rh1, rv, q⟩
  exact q G1 F σ H1 v rh1 (sl_mono e1 sl) rv _ fun s H2 q2 => l.1 _ _ (q2.up e1)
theorem x_drop (he : dEX K W te (fun d h1 => nx δ h1) q δ h) : dX K W (tDrop te) nx rt bk ct q δ h := fun G F σ H rh sl Z l lx => by
  refine he G F σ H rh sl _ ?_ lx
  rintro v H1 ⟨G1, d, h1, e1, rh1, rv, q⟩
  exact l.1 _ _ ⟨G1, δ, h1, e1, rh1, sl_mono e1 sl, q⟩
theorem x_ret (he : dEX K W te rt q δ h) : dX K W (tRet te) nx rt bk ct q δ h := fun G F σ H rh sl Z l lx => he G F σ H rh sl _ l.2.1 lx
/-- a def that may let something out, called -/
theorem ex_call {sp : DSp} {ta : TA} (he : dA K ta δ h (fun ds h1 => sp ds h1 Q (fun C d h2 => q C d δ h2))) : dEX K W (tCallS (upSp K sp) (WE W) ta) Q q δ h := fun G F σ H rh sl QV k lx => by
  refine he G F σ H rh sl _ ?_
  rintro vs H1 ⟨G1, ds, h1, e1, rh1, rv, q1⟩
  refine ⟨G1, F, ds, h1, Q, _, rh1, rv, q1, fun v H' l => k v H' (l.up e1), ?_⟩
  rintro c d H' ⟨C, G', h', rfl, e2, rh2, q2⟩
  exact lx _ _ _ _ ⟨C, G', δ, h', rfl, e1.trans e2, rh2, sl_mono (e1.trans e2) sl, q2⟩
/-- raise C('..') -/
def tRaiseC (W : WX) (C : Addr) : TS := fun _ σ H => W (.ref C) none σ H
theorem x_raise {C : Addr} (s : q C none δ h) : dX K W (tRaiseC W C) nx rt bk ct q δ h := fun G F σ H rh sl Z l lx => lx _ _ _ _ ⟨C, G, δ, h, rfl, Ex.refl G, rh, sl, s⟩
/-- for -/
theorem x_for (hi : dI K wi δ h (fun ds C h1 => ∃ P : Nat → DSt → DH → Prop, P 0 δ h1 ∧ (∀ i δ' h', P i δ' h' → C h') ∧
    (∀ i d δ' h', ds[i]? = some d → P i δ' h' → dG K g d δ' h' (fun δ2 h2 => dX K W tu (P (i + 1)) rt nx (P (i + 1)) q δ2 h2)) ∧
    (∀ δ' h', P ds.length δ' h' → nx δ' h'))) : dX K W (tFor wi g tu) nx rt bk ct q δ h := fun G F σ H rh sl Z l lx => by
  refine hi G F σ H rh sl _ ?_
  rintro J H1 G1 h1 ds C e1 rh1 src c0 ⟨P, p0, pc, ps, pd⟩
  refine ⟨fun i m σ H => m = ds.length - i ∧ i ≤ ds.length ∧ LS K G1 F (P i) σ H, ⟨ds.length, by simp, Nat.zero_le _, ⟨G1, δ, h1, Ex.refl _, rh1, sl_mono e1 sl, p0⟩⟩, ?_⟩
  rintro i m σ2 H2 ⟨rfl, hi, G2, δ2, h2, e2, rh2, sl2, p2⟩
  by_cases hlt : i < ds.length
  · have ed : ds[i]? = some ds[i] := by simp [hlt]
    refine .inr ⟨src.go G2 F h2 H2 i _ e2 rh2 (pc _ _ _ p2) ed, LS K G1 F (P (i + 1)), fun σ' H' q => ⟨ds.length - (i + 1), by omega, rfl, hlt, q⟩, ?_⟩
    intro x H3 y
    obtain ⟨G3, e3, rh3, rx⟩ := src.yld G2 F h2 H2 i _ x H3 e2 rh2 (pc _ _ _ p2) ed y
    refine ps i _ δ2 h2 ed p2 G3 F σ2 H3 x rh3 (sl_mono e3 sl2) rx _ ?_
    rintro σ4 H4 ⟨G4, δ4, h4, e4, rh4, sl4, q4⟩
    have e14 := e2.trans (e3.trans e4)
    exact q4 G4 F σ4 H4 rh4 sl4 _ ⟨fun σ' H' q => q.up e14, fun v H' q => l.2.1 _ _ (q.up (e1.trans e14)), fun σ' H' q => l.1 _ _ (q.up (e1.trans e14)), fun σ' H' q => q.up e14⟩ fun c d σ' H' q2 => lx c d σ' H' (q2.up (e1.trans e14))
  · have e : i = ds.length := by omega
    subst e
    exact .inl ⟨src.stop G2 F h2 H2 _ e2 rh2 (pc _ _ _ p2) (Nat.le_refl _), l.1 _ _ ⟨G2, δ2, h2, e1.trans e2, rh2, sl2, pd _ _ p2⟩⟩
theorem x_while (V : Nat → DSt → DH → Prop) (h0 : ∃ m, V m δ h)
    (hs : ∀ m δ' h', V m δ' h' → dT K c δ' h' (fun b h1 => (b = true → dX K W tu (fun δ2 h2 => ∃ m', m' < m ∧ V m' δ2 h2) rt nx (fun δ2 h2 => ∃ m', m' < m ∧ V m' δ2 h2) q δ' h1) ∧ (b = false → nx δ' h1))) :
    dX K W (tWhile c tu) nx rt bk ct q δ h := fun G F σ H rh sl Z l lx => by
  obtain ⟨m0, w0⟩ := h0
  refine ⟨fun m => LS K G F (V m), ⟨m0, ⟨G, δ, h, Ex.refl _, rh, sl, w0⟩⟩, ?_⟩
  rintro m σ1 H1 ⟨G1, δ1, h1, e1, rh1, sl1, w1⟩
  refine hs m δ1 h1 w1 G1 F σ1 H1 rh1 sl1 _ ?_
  rintro b H2 ⟨G2, h2, e2, rh2, q1, q2⟩
  cases b with
  | true =>
    rw [if_pos rfl]
    refine ⟨LS K G F (fun δ2 h2 => ∃ m', m' < m ∧ V m' δ2 h2), ?_, ?_⟩
    · rintro σ' H' ⟨G3, δ3, h3, e3, rh3, sl3, m', hm, w3⟩
      exact ⟨m', hm, G3, δ3, h3, e3, rh3, sl3, w3⟩
    · have e12 := e1.trans e2
      exact q1 rfl G2 F σ1 H2 rh2 (sl_mono e2 sl1) _ ⟨fun σ' H' q => q.up e12, fun v H' q => l.2.1 _ _ (q.up e12), fun σ' H' q => l.1 _ _ (q.up e12), fun σ' H' q => q.up e12⟩ fun c d σ' H' q2 => lx c d σ' H' (q2.up e12)
  | false =>
    rw [if_neg Bool.false_ne_true]
    exact l.1 _ _ ⟨G2, δ1, h2, e1.trans e2, rh2, sl_mono e2 sl1, q2 rfl⟩
/-- what is owned is let go -/
theorem RH.drop (r : RH K G F h H) : RH K G F (derase h a) H := ⟨r.ex, fun b o e => by
    obtain ⟨e1, e2, e3⟩ := r.fr b o e
    refine ⟨e1, ?_, e3⟩
    unfold derase; split
    · rfl
    · exact e2, fun b o e => by
    unfold derase at e
    split at e
    · cases e
    · exact r.own b o e⟩
theorem s_letgo (a : Addr) (s : dS K ts nx rt bk ct δ (derase h a)) : dS K ts nx rt bk ct δ h := fun G F σ H rh sl Z l => s G F σ H rh.drop sl Z l
/-- try .. except X as n -/
def tTryAs (K : PySem.W.Frag) (c : Value) (i : Nat) (tb : WX → TS) (ts : Addr → Value → Option Addr → TS) (Wout : WX) : TS := fun D σ H => tb (wAs K c i ts Wout D) D σ H
theorem s_try {tb : WX → TS} {ts : Addr → Value → Option Addr → TS} {cv : Value} {Wout : WX} {i : Nat}
    (hb : ∀ W, dX K W (tb W) nx rt bk ct (fun C d δ' h' => PySem.W.exmOne K (.ref C) cv = some true ∧ ∀ a, dS K (ts a (.ref C) d) (fun δ2 h2 => nx (δ2.set i none) h2) rt (fun δ2 h2 => bk (δ2.set i none) h2) (fun δ2 h2 => ct (δ2.set i none) h2) (δ'.set i (some (.ref a))) h') δ h) :
    dS K (tTryAs K cv i tb ts Wout) nx rt bk ct δ h := fun G F σ H rh sl Z l => by
  refine hb _ G F σ H rh sl Z l ?_
  rintro c d σ' H' ⟨C, G', δ', h', rfl, e, rh', sl', q1, q2⟩
  refine ⟨true, q1, fun _ a _ => ?_, fun z => Bool.noConfusion z⟩
  refine q2 a G' F _ H' rh' (sl_set (.some (.ref a)) i sl') _ ⟨?_, fun v H2 q => l.2.1 _ _ (q.up e), ?_, ?_⟩
  · rintro σ2 H2 ⟨G2, δ2, h2, e2, rh2, sl2, q3⟩
    exact l.1 _ _ ⟨G2, _, h2, e.trans e2, rh2, sl_set .none i sl2, q3⟩
  · rintro σ2 H2 ⟨G2, δ2, h2, e2, rh2, sl2, q3⟩
    exact l.2.2.1 _ _ ⟨G2, _, h2, e.trans e2, rh2, sl_set .none i sl2, q3⟩
  · rintro σ2 H2 ⟨G2, δ2, h2, e2, rh2, sl2, q3⟩
    exact l.2.2.2 _ _ ⟨G2, _, h2, e.trans e2, rh2, sl_set .none i sl2, q3⟩
/-- a class as a value -/
theorem e_cls {C : Addr} (q : Q (.ref C) h) : dE K (tC (.ref C)) δ h Q := e_c (fun _ => .ref C) q
end
theorem r_isB {K : PySem.W.Frag} {h : DH} {Q : DK} {n m : Bool} (q : Q (.bl (decide (n = m))) h) : dR K rIsB (.bl n) (.bl m) h Q := fun G F H vx vy rh rx ry QV k => by
  cases rx; cases ry
  exact ⟨n, m, rfl, rfl, k _ _ (.of rh (.bl _) q)⟩
theorem r_notB {K : PySem.W.Frag} {h : DH} {Q : DK} {n m : Bool} (q : Q (.bl (!decide (n = m))) h) : dR K rNotB (.bl n) (.bl m) h Q := fun G F H vx vy rh rx ry QV k => by
  cases rx; cases ry
  exact ⟨n, m, rfl, rfl, k _ _ (.of rh (.bl _) q)⟩
theorem and_r {b : Bool} {p q : Prop} (hb : b = false) (hq : q) : (b = true → p) ∧ (b = false → q) := ⟨fun e => (by rw [hb] at e; cases e), fun _ => hq⟩
theorem and_l {b : Bool} {p q : Prop} (hb : b = true) (hp : p) : (b = true → p) ∧ (b = false → q) := ⟨fun _ => hp, fun e => by rw [hb] at e; cases e⟩
theorem dna_r {b : Bool} {p q : Prop} (hb : b = true) (hq : q) : (b = false → p) ∧ (b = true → q) := ⟨fun e => (by rw [hb] at e; cases e), fun _ => hq⟩
theorem dna_l {b : Bool} {p q : Prop} (hb : b = false) (hp : p) : (b = false → p) ∧ (b = true → q) := ⟨fun _ => hp, fun e => by rw [hb] at e; cases e⟩
/-! ### isinstance of what was caught -/
def rIsEx (K : PySem.W.Frag) (a : Addr) (cls : Value) (d : Option Addr) : List V → Hp → VK → Prop := fun xs H Q => ∃ D, cls = .ref D ∧ d = none ∧ ExcC K D ∧ rIsE K D a xs H Q
theorem call_isEx {X : Cx} {a : Addr} {oe : Obj} {cls : Value} {d : Option Addr} {pn : List (Addr × Obj)} (hz : Zc cls d oe) (hf : ∃ vs, oe.data = .fields vs) : CallR (X.suite a ((a, oe) :: pn)) (.builtin "isinstance") (rIsEx X.K a cls d) := by
  intro pins s σ H xs us Q I r h
  obtain ⟨D, rfl, rfl, C, h⟩ := h
  exact call_isE C hz hf pins s σ H xs us Q I r h
section
variable {K : PySem.W.Frag} {h : DH} {Q : DK}
theorem c_isEC {a D C : Addr} {b : Bool} (e : ExcC K D) (k : PySem.W.kitOne K (.ref D) (.ref C) = some b) (q : Q (.bl b) h) : dC K (rIsEx K a (.ref D) none) [.ref a, .ref C] h Q := fun G F H vs rh rs QV kk => by
  cases rs with
  | cons r0 r1 =>
    cases r1 with
    | cons r1 r2 =>
      cases r2; cases r0; cases r1
      exact ⟨D, rfl, rfl, e, .ref C, .ref C, b, rfl, fun u r => by cases r; rfl, k, kk _ _ (.of rh (.bl b) q)⟩
theorem c_isET {a D : Addr} {n : String} {b : Bool} (e : ExcC K D) (k : PySem.W.kitOne K (.ref D) (.type n) = some b) (q : Q (.bl b) h) : dC K (rIsEx K a (.ref D) none) [.ref a, .ty n] h Q := fun G F H vs rh rs QV kk => by
  cases rs with
  | cons r0 r1 =>
    cases r1 with
    | cons r1 r2 =>
      cases r2; cases r0; cases r1
      exact ⟨D, rfl, rfl, e, .ty n, .type n, b, rfl, fun u r => r, k, kk _ _ (.of rh (.bl b) q)⟩
end
/-! ### defs that may raise -/
structure CalX (P : Program) (w : World) (K : PySem.W.Frag) (mg : Str → Option Value) (base : Heap) (k : Nat) (x : Str) (sp : Sp) : Prop where
  ex : ∃ (f : Addr) (fd : FuncData) (ps : List Str), FnOk P w K mg base (L2.CX P w) k f fd ps sp ∧ mg x = some (.ref f) ∧ PySem.W.keepIn K (.ref f) = true ∧ Binds K fd ps []
section
variable {X : Cx} {k j : Nat} {x : Str} {sp : Sp} {p pos : Pos} {e : Expr} {es : List Expr} {t : TA} {W : WX}
theorem pe_cx (c : CalX X.prog X.w X.K X.mg X.base k x sp) (hr : Room j X.A) (hk : k ≤ j) (hg : Gl X x) (tk : Takes X W) (ha : PA X (e :: es) t)
    (hdb : (x == ("__debug__" : Str)) = false := by decide) (he : starEach (e :: es) X.env = (false, eval e X.env) :: starEach es X.env := by rfl) (hpl : (backTo pos (starEach es X.env)).any (·.1) = false := by rfl) :
    PE X (.Call (.Name x p) (e :: es) [] pos) (tCallS sp (WE W) t) := by
  obtain ⟨f, fd, ps, F, hm, kp, b⟩ := c.ex
  exact pe_callS F (hr.mono hk) hg hm kp b (fun σ => passAt tk σ) ha hdb he hpl
theorem pe_cx0 (c : CalX X.prog X.w X.K X.mg X.base k x sp) (hr : Room j X.A) (hk : k ≤ j) (hg : Gl X x) (ha : PA X (e :: es) t)
    (hdb : (x == ("__debug__" : Str)) = false := by decide) (he : starEach (e :: es) X.env = (false, eval e X.env) :: starEach es X.env := by rfl) (hpl : (backTo pos (starEach es X.env)).any (·.1) = false := by rfl) :
    PE X (.Call (.Name x p) (e :: es) [] pos) (tCall sp [] C8.E0 t) := by
  obtain ⟨f, fd, ps, F, hm, kp, b⟩ := c.ex
  exact pe_call F (hr.mono hk) hg hm kp b .nil (E := C8.E0) (fun pins σ H s e s' I h => by obtain ⟨_, _, _, _, _, _, _, _, _, _, _, _, z⟩ := h; exact z.elim) ha hdb he hpl
end
/-- a body that may let something out -/
abbrev dBX (K : PySem.W.Frag) (t : WX → TS) (N : List Str) (ds : List D) (h : DH) (QD : DK) (QX : DX) : Prop := ∀ W, dX K W (t W) (fun _ h' => QD .non h') QD noP noP (fun C d _ h' => QX C d h') (dstart N ds) h
theorem body_okX {K : PySem.W.Frag} {sp : DSp} {t : WX → TS} {N : List Str} (hb : ∀ ds h QD QX, sp ds h QD QX → dBX K t N ds h QD QX) (vs : List V) (H : Hp) (Q : VK) (E : XK) (hs : upSp K sp vs H Q E) :
    t (fun c d _ H => E c d H) { nx := fun _ H' => Q .non H', rt := Q } (L2.start N vs) H := by
  obtain ⟨G, F, ds, h, QD, QX, rh, rv, q, k, kx⟩ := hs
  refine hb ds h QD QX q _ G F _ H rh (sl_start rv) _ ⟨?_, k, ?_, ?_⟩ ?_
  · rintro σ' H' ⟨G', δ', h', e, rh', sl', q'⟩
    exact k _ _ ⟨G', .non, h', e, rh', .non, q'⟩
  · rintro σ' H' ⟨G', δ', h', e, rh', sl', q'⟩
    exact q'.elim
  · rintro σ' H' ⟨G', δ', h', e, rh', sl', q'⟩
    exact q'.elim
  · rintro c d σ' H' ⟨C, G', δ', h', rfl, e, rh', sl', q'⟩
    exact kx _ _ _ ⟨C, G', h', rfl, e, rh', q'⟩
section
variable {P : Program} {w : World} {K : PySem.W.Frag} {mg : Str → Option Value} {base : Heap} {x : Str} {st : Stmt} {f : Addr} {fd : FuncData} {N ps : List Str} {k : Nat} {sp : DSp} {t : WX → TS}
theorem calX (F : FunD K x x (defArgs st) (defBody st) (defScope st) [] [] f fd) (hm : mg x = some (.ref f)) (b : Binds K fd ps []) (S : FnScope N ps (defScope st)) (len : ∀ ds h QD QX, sp ds h QD QX → ds.length = ps.length)
    (tm : ∀ (cdv : Value) (A : Around) (outer : List Env) (s : Shared) (H : Hp) (E : XK), Room k (A.deeper (envOfC x (defScope st) s.heap.objs.size f cdv)) → PSs (cxOf (L2.CX P w) P w K mg base N x (defScope st) f cdv A outer s H E) (defBody st) (t fun c d _ H => E c d H))
    (hp : ∀ ds h QD QX, sp ds h QD QX → dBX K t N ds h QD QX) : CalX P w K mg base (k + 1) x (upSp K sp) :=
  ⟨f, fd, ps, F.ok S (len_up len) fun cdv A outer s H vs Q E hr h => ⟨_, tm cdv A outer s H E hr, body_okX hp vs H Q E h⟩, hm, F.kp, b⟩
end
end DL
set_option maxHeartbeats 2000000
/-! DL: zip of any two of lists and tuples. Own lemmas: an iterator of either kind (b: over a tuple). -/
namespace ZB
open PySem PySem.Spec PyProof.Rows L2
/-- the iterator at it stands at k of the list, of the tuple at l -/
def At (b : Bool) (h : Heap) (it l : Addr) (k : Nat) : Prop := match b with
  | true => h.IsTupleIter it l k
  | false => h.IsListIter it l k
def Has (b : Bool) (h : Heap) (l : Addr) (xs : Array Value) : Prop := match b with
  | true => h.IsTuple l xs
  | false => h.IsList l xs
theorem At.up {b : Bool} {h h' : Heap} {c it l : Addr} {k : Nat} (x : At b h it l k) (e : Heap.ExtBut c h h') (n : it ≠ c) : At b h' it l k := by
  cases b
  · exact Heap.IsListIter.extBut x e n
  · exact Heap.IsTupleIter.extBut x e n
theorem At.up' {b : Bool} {h h' : Heap} {it l : Addr} {k : Nat} (x : At b h it l k) (e : ∀ o, h.get? it = some o → h'.get? it = some o) : At b h' it l k := by
  cases b
  · exact Heap.IsListIter.at x e
  · exact Heap.IsTupleIter.at x e
theorem At.obj {b : Bool} {h : Heap} {it l : Addr} {k : Nat} (x : At b h it l k) : ∃ o, h.get? it = some o ∧ ∀ v, o.data ≠ .cell v := by
  cases b
  · obtain ⟨o, e, _, d⟩ := x
    exact ⟨o, e, fun v z => by rw [d] at z; cases z⟩
  · obtain ⟨o, e, _, d⟩ := x
    exact ⟨o, e, fun v z => by rw [d] at z; cases z⟩
theorem Has.up {b : Bool} {h h' : Heap} {c l : Addr} {xs : Array Value} (x : Has b h l xs) (e : Heap.ExtBut c h h') (n : l ≠ c) : Has b h' l xs := by
  cases b
  · exact Heap.IsList.extBut x e n
  · exact Heap.IsTuple.extBut x e n
theorem Has.lt {b : Bool} {h : Heap} {l : Addr} {xs : Array Value} (x : Has b h l xs) : l < h.objs.size := by
  cases b
  · obtain ⟨_, e, _⟩ := x; exact Heap.lt_size e
  · obtain ⟨_, e, _⟩ := x; exact Heap.lt_size e
section
variable {prog : Program} {w : World} {A : Around} {E : Value → Shared → Prop} {s : Shared} {b c : Bool}
theorem one {it l : Addr} {k : Nat} {xs : Array Value} {x : Value} {Q : Value → Shared → Prop} (a : At b s.heap it l k) (g : Has b s.heap l xs) (e : xs[k]? = some x)
    (q : ∀ h', At b h' it l (k + 1) → Heap.SameBut it s.heap h' → Q x { s with heap := h' }) : wpAny (model prog w) A (Builtin.SmallTypes.nextOf (.ref it)) Q E s := by
  cases b
  · exact wpAny_nextOf_list_item a g e q
  · exact RZ.nextOf_tuple_item a g e q
theorem last {it l : Addr} {k : Nat} {xs : Array Value} {Q : Value → Shared → Prop} (hh : A.handled = none) (a : At b s.heap it l k) (g : Has b s.heap l xs) (e : xs[k]? = none)
    (q : ∀ h' e, Heap.ExtBut it s.heap h' → (∃ o, h'.get? e = some o ∧ o.cls = .type "StopIteration") → E (.ref e) { s with heap := h' }) : wpAny (model prog w) A (Builtin.SmallTypes.nextOf (.ref it)) Q E s := by
  cases b
  · exact wpAny_nextOf_list_end hh a g e q
  · exact RZ.nextOf_tuple_end hh a g e q
theorem it_of {l : Addr} {xs : Array Value} {Q : Value → Shared → Prop} (g : Has b s.heap l xs)
    (q : ∀ o : Obj, At b (s.heap.push o) s.heap.objs.size l 0 → Q (.ref s.heap.objs.size) { s with heap := s.heap.push o }) : wpAny (model prog w) A (pyIter (.ref l)) Q E s := by
  cases b
  · exact wpAny_pyIter_list g (q _ ⟨_, Heap.get?_push_size _ rfl, rfl, rfl⟩)
  · exact wpAny_pyIter_tuple g (q _ ⟨_, Heap.get?_push_size _ rfl, rfl, rfl⟩)

/-- a step of a zip that yields a pair -/
theorem pair {z TI TO i1 i2 l m : Addr} {j k : Nat} {xs ys : Array Value} {x y u v : Value} {Q : Value → Shared → Prop} (D : ZipApart z TI TO i1 i2 l m)
    (gz : IsZip s.heap z TI TO .none) (gI : IsPair s.heap TI (.ref i1) (.ref i2)) (gO : IsPair s.heap TO u v) (a1 : At b s.heap i1 l j) (a2 : At c s.heap i2 m k)
    (g1 : Has b s.heap l xs) (g2 : Has c s.heap m ys) (ex : xs[j]? = some x) (ey : ys[k]? = some y)
    (q : ∀ h', IsZip h' z TI TO (rawInt s.heap.objs.size) → IsPair h' TO x y → At b h' i1 l (j + 1) → At c h' i2 m (k + 1) → IsPair h' s.heap.objs.size x y →
      (∀ d o, d ≠ z → d ≠ TO → d ≠ i1 → d ≠ i2 → s.heap.get? d = some o → h'.get? d = some o) → Q (.ref s.heap.objs.size) { s with heap := h' }) :
    wpAny (model prog w) A (Builtin.«zip.__next__» ⟨[.ref z], []⟩) (fun f s' => ∃ r, f = .done (.ret r) ∧ Q r s') E s := by
  show wpAny _ _ (field (.ref z) 2 >>= _) _ _ _
  refine wpAny_bind (wpAny_field gz rfl (x := .bool false) rfl ?_)
  show wpAny _ _ (field (.ref z) 3 >>= _) _ _ _
  refine wpAny_bind (wpAny_field gz rfl (x := .ref TI) rfl (wpAny_bind (wpAny_seqItems gI rfl ?_)))
  show wpAny _ _ (Builtin.SmallTypes.ownedTupleIsFree (.ref z) >>= _) _ _ _
  refine wpAny_bind ?_
  unfold Builtin.SmallTypes.ownedTupleIsFree
  refine wpAny_bind (wpAny_field gz rfl (x := .none) rfl (wpAny_pure ?_))
  simp only [if_true]
  refine wpAny_bind (wpAny_rule (wpAny_bind (wpAny_field gz rfl (x := .ref TO) rfl (wpAny_bind (wpAny_setField_rec gz (by simp) fun h1 z1 s1 => ?_)))))
  replace z1 : IsZip h1 z TI TO .ellipsis := z1
  refine wpAny_bind ?_
  simp only [List.zipIdx_cons, List.zipIdx_nil, List.forIn_cons, List.forIn_nil]
  refine wpAny_bind (wpAny_bind (wpAny_onRaise ?_))
  show wpAny _ _ (Builtin.SmallTypes.nextOf (.ref i1) >>= _) _ _ _
  have n1 := s1.extBut
  refine wpAny_bind (one (a1.up n1 D.i1z) (g1.up n1 D.l1z) ex fun h2 b1 s2 => wpAny_pure ?_)
  have n2 := s2.extBut
  have o2 : IsPair h2 TO u v := n2 _ _ D.TOi1 (n1 _ _ D.TOz gO)
  refine wpAny_bind (wpAny_seqItems o2 rfl (wpAny_bind (wpAny_updateSeq_pair o2 fun h3 o3 s3 => ?_)))
  replace o3 : IsPair h3 TO x v := o3
  have n3 := s3.extBut
  refine wpAny_bind (wpAny_letGo (wpAny_pure (wpAny_bind (wpAny_bind (wpAny_onRaise ?_)))))
  show wpAny _ _ (Builtin.SmallTypes.nextOf (.ref i2) >>= _) _ _ _
  refine wpAny_bind (one (((a2.up n1 D.i2z).up n2 D.i12.symm).up n3 D.TOi2.symm) (((g2.up n1 D.l2z).up n2 D.l2i1).up n3 D.l2TO) ey fun h4 b2 s4 => wpAny_pure ?_)
  have n4 := s4.extBut
  have o4 : IsPair h4 TO x v := n4 _ _ D.TOi2 o3
  refine wpAny_bind (wpAny_seqItems o4 rfl (wpAny_bind (wpAny_updateSeq_pair o4 fun h5 o5 s5 => ?_)))
  replace o5 : IsPair h5 TO x y := o5
  have n5 := s5.extBut
  refine wpAny_bind (wpAny_letGo (wpAny_pure (wpAny_pure (wpAny_bind (wpAny_seqItems o5 rfl (wpAny_bind (wpAny_newTuple ?_)))))))
  have sz : h5.objs.size = s.heap.objs.size := by rw [s5.1, s4.1, s3.1, s2.1, s1.1]
  have z5 : IsZip h5 z TI TO .ellipsis := n5 _ _ D.TOz.symm (n4 _ _ D.i2z.symm (n3 _ _ D.TOz.symm (n2 _ _ D.i1z.symm z1)))
  have keep5 : ∀ d o, d ≠ z → d ≠ TO → d ≠ i1 → d ≠ i2 → s.heap.get? d = some o → h5.get? d = some o := fun d o p1 p2 p3 p4 e => n5 _ _ p2 (n4 _ _ p4 (n3 _ _ p2 (n2 _ _ p3 (n1 _ _ p1 e))))
  have c1 : At b h5 i1 l (j + 1) := ((b1.up n3 D.TOi1.symm).up n4 D.i12).up n5 D.TOi1.symm
  have c2 : At c h5 i2 m (k + 1) := b2.up n5 D.TOi2.symm
  have lz : z < h5.objs.size := Heap.lt_size z5
  show wpAny _ _ (Builtin.SmallTypes.ownedTupleHandOut (.ref z) (.ref h5.objs.size) >>= _) _ _ _
  refine wpAny_bind ?_
  unfold Builtin.SmallTypes.ownedTupleHandOut
  have z6 : IsZip (h5.push { cls := .type "tuple", data := .seq #[x, y] }) z TI TO .ellipsis := Heap.get?_push_of_some _ z5
  refine wpAny_bind (wpAny_setField_rec z6 (by simp) fun h7 z7 s7 => ?_)
  replace z7 : IsZip h7 z TI TO (rawInt h5.objs.size) := z7
  refine wpAny_setField_rec z7 (by simp) fun h8 z8 s8 => ?_
  replace z8 : IsZip h8 z TI TO (rawInt h5.objs.size) := z8
  have on : ∀ d o, d ≠ z → h5.get? d = some o → h8.get? d = some o := fun d o p e => s8.extBut _ _ p (s7.extBut _ _ p (Heap.get?_push_of_some _ e))
  have t8 : IsPair h8 h5.objs.size x y := s8.extBut _ _ (Nat.ne_of_gt lz) (s7.extBut _ _ (Nat.ne_of_gt lz) (Heap.get?_push_size _ rfl))
  rw [sz] at z8 t8
  refine wpAny_pure ⟨_, rfl, ?_⟩
  show Q (.ref h5.objs.size) _
  rw [sz]
  exact q h8 z8 (on _ _ D.TOz o5) (c1.up' fun o e => on _ o D.i1z e) (c2.up' fun o e => on _ o D.i2z e) t8 fun d o p1 p2 p3 p4 e => on d o p1 (keep5 d o p1 p2 p3 p4 e)
/-- a step at the end of either -/
theorem noPair {z TI TO i1 i2 l m : Addr} {j k : Nat} {xs ys : Array Value} {u v : Value} {Q : Fin → Shared → Prop} (hh : A.handled = none) (D : ZipApart z TI TO i1 i2 l m)
    (gz : IsZip s.heap z TI TO .none) (gI : IsPair s.heap TI (.ref i1) (.ref i2)) (gO : IsPair s.heap TO u v) (a1 : At b s.heap i1 l j) (a2 : At c s.heap i2 m k)
    (g1 : Has b s.heap l xs) (g2 : Has c s.heap m ys) (en : xs[j]? = none ∨ ys[k]? = none)
    (q : ∀ h' e, (∀ d o, d ≠ z → d ≠ TO → d ≠ i1 → d ≠ i2 → s.heap.get? d = some o → h'.get? d = some o) → (∃ o, h'.get? e = some o ∧ o.cls = .type "StopIteration") → E (.ref e) { s with heap := h' }) :
    wpAny (model prog w) A (Builtin.«zip.__next__» ⟨[.ref z], []⟩) Q E s := by
  show wpAny _ _ (field (.ref z) 2 >>= _) _ _ _
  refine wpAny_bind (wpAny_field gz rfl (x := .bool false) rfl ?_)
  show wpAny _ _ (field (.ref z) 3 >>= _) _ _ _
  refine wpAny_bind (wpAny_field gz rfl (x := .ref TI) rfl (wpAny_bind (wpAny_seqItems gI rfl ?_)))
  show wpAny _ _ (Builtin.SmallTypes.ownedTupleIsFree (.ref z) >>= _) _ _ _
  refine wpAny_bind ?_
  unfold Builtin.SmallTypes.ownedTupleIsFree
  refine wpAny_bind (wpAny_field gz rfl (x := .none) rfl (wpAny_pure ?_))
  simp only [if_true]
  refine wpAny_bind (wpAny_rule (wpAny_bind (wpAny_field gz rfl (x := .ref TO) rfl (wpAny_bind (wpAny_setField_rec gz (by simp) fun h1 z1 s1 => ?_)))))
  replace z1 : IsZip h1 z TI TO .ellipsis := z1
  refine wpAny_bind ?_
  simp only [List.zipIdx_cons, List.zipIdx_nil, List.forIn_cons, List.forIn_nil]
  refine wpAny_bind (wpAny_bind (wpAny_onRaise ?_))
  show wpAny _ _ (Builtin.SmallTypes.nextOf (.ref i1) >>= _) _ _ _
  have n1 := s1.extBut
  have stop : ∀ {h : Heap} {e : Addr} {hq : Heap}, IsZip h z TI TO .ellipsis → Heap.SameBut z h hq → (∃ o, h.get? e = some o ∧ o.cls = .type "StopIteration") → ∃ o, hq.get? e = some o ∧ o.cls = .type "StopIteration" := fun {h e hq} gz sb ⟨o, eo, co⟩ =>
    ⟨o, sb.extBut _ _ (fun w => by subst w; rw [gz] at eo; cases eo; simp at co) eo, co⟩
  cases ex : xs[j]? with
  | none =>
    refine wpAny_bind (last hh (a1.up n1 D.i1z) (g1.up n1 D.l1z) ex fun h2 e n2 he => ?_)
    have z2 : IsZip h2 z TI TO .ellipsis := n2 _ _ D.i1z.symm z1
    exact wpAny_setField_rec z2 (by simp) fun h3 _ s3 => q h3 e (fun d o p1 _ p3 _ w => s3.extBut _ _ p1 (n2 _ _ p3 (n1 _ _ p1 w))) (stop z2 s3 he)
  | some x =>
    have ey : ys[k]? = none := en.resolve_left (by rw [ex]; exact fun z => nomatch z)
    refine wpAny_bind (one (a1.up n1 D.i1z) (g1.up n1 D.l1z) ex fun h2 b1 s2 => wpAny_pure ?_)
    have n2 := s2.extBut
    have o2 : IsPair h2 TO u v := n2 _ _ D.TOi1 (n1 _ _ D.TOz gO)
    refine wpAny_bind (wpAny_seqItems o2 rfl (wpAny_bind (wpAny_updateSeq_pair o2 fun h3 o3 s3 => ?_)))
    have n3 := s3.extBut
    refine wpAny_bind (wpAny_letGo (wpAny_pure (wpAny_bind (wpAny_bind (wpAny_onRaise ?_)))))
    show wpAny _ _ (Builtin.SmallTypes.nextOf (.ref i2) >>= _) _ _ _
    refine wpAny_bind (last hh (((a2.up n1 D.i2z).up n2 D.i12.symm).up n3 D.TOi2.symm) (((g2.up n1 D.l2z).up n2 D.l2i1).up n3 D.l2TO) ey fun h4 e n4 he => ?_)
    have z4 : IsZip h4 z TI TO .ellipsis := n4 _ _ D.i2z.symm (n3 _ _ D.TOz.symm (n2 _ _ D.i1z.symm z1))
    exact wpAny_setField_rec z4 (by simp) fun h5 _ s5 => q h5 e (fun d o p1 p2 p3 p4 w => s5.extBut _ _ p1 (n4 _ _ p4 (n3 _ _ p2 (n2 _ _ p3 (n1 _ _ p1 w))))) (stop z4 s5 he)
end
/-- zip(l, m) -/
theorem made (b c : Bool) (l m : Addr) (xs ys : Array Value) :
    Meets (Builtin.«zip.__new__» ⟨[.type "zip", .ref l, .ref m], []⟩) (fun _ R s => Has b s.heap l xs ∧ Has c s.heap m ys ∧
      ∀ h', IsZip h' (s.heap.objs.size + 4) (s.heap.objs.size + 2) (s.heap.objs.size + 3) .none → IsPair h' (s.heap.objs.size + 2) (.ref s.heap.objs.size) (.ref (s.heap.objs.size + 1)) →
      IsPair h' (s.heap.objs.size + 3) .none .none → At b h' s.heap.objs.size l 0 → At c h' (s.heap.objs.size + 1) m 0 →
      (∀ d o, s.heap.get? d = some o → h'.get? d = some o) → R (.ok (.ret (.ref (s.heap.objs.size + 4)))) { s with heap := h' }) :=
  .of_wp fun prog w A R s h => by
    obtain ⟨hp, g, d, tk, os⟩ := s
    obtain ⟨g1, g2, q⟩ := h
    have hs := sub_zip
    have fin : ∀ (o1 o2 : Obj), At b (hp.push o1) hp.objs.size l 0 → At c ((hp.push o1).push o2) (hp.push o1).objs.size m 0 → ∀ h' : Heap, ∀ r : Addr,
        h' = ((((hp.push o1).push o2).push { cls := .type "tuple", data := .seq #[.ref hp.objs.size, .ref (hp.push o1).objs.size] }).push { cls := .type "tuple", data := .seq #[.none, .none] }).push
          { cls := .type "zip", data := .fields #[.none, .bool false, .bool false, .ref ((hp.push o1).push o2).objs.size, .ref (((hp.push o1).push o2).push { cls := .type "tuple", data := .seq #[.ref hp.objs.size, .ref (hp.push o1).objs.size] }).objs.size] } →
        r = hp.objs.size + 4 → R (.ok (.ret (.ref r))) { heap := h', gens := g, drawn := d, toks := tk, os := os } := by
      intro o1 o2 a1 a2 h' r eh er
      subst er
      have k1 := Heap.size_push hp o1
      have k2 := Heap.size_push (hp.push o1) o2
      rw [k1] at a2
      have up1 : ∀ e o, hp.get? e = some o → h'.get? e = some o := fun e o w => by
        rw [eh]
        exact Heap.get?_push_of_some _ (Heap.get?_push_of_some _ (Heap.get?_push_of_some _ (Heap.get?_push_of_some _ (Heap.get?_push_of_some _ w))))
      refine q h' ?_ ?_ ?_ ?_ ?_ up1
      · have w := Heap.get?_push_size ((((hp.push o1).push o2).push { cls := .type "tuple", data := .seq #[.ref hp.objs.size, .ref (hp.push o1).objs.size] }).push { cls := .type "tuple", data := .seq #[.none, .none] }) (o := { cls := .type "zip", data := .fields #[.none, .bool false, .bool false, .ref ((hp.push o1).push o2).objs.size, .ref (((hp.push o1).push o2).push { cls := .type "tuple", data := .seq #[.ref hp.objs.size, .ref (hp.push o1).objs.size] }).objs.size] }) rfl
        rw [← eh] at w
        simp only [Heap.size_push] at w
        exact w
      · have w := Heap.get?_push_size ((hp.push o1).push o2) (o := { cls := .type "tuple", data := .seq #[.ref hp.objs.size, .ref (hp.push o1).objs.size] }) rfl
        have w2 := Heap.get?_push_of_some { cls := .type "zip", data := .fields #[.none, .bool false, .bool false, .ref ((hp.push o1).push o2).objs.size, .ref (((hp.push o1).push o2).push { cls := .type "tuple", data := .seq #[.ref hp.objs.size, .ref (hp.push o1).objs.size] }).objs.size] } (Heap.get?_push_of_some { cls := .type "tuple", data := .seq #[.none, .none] } w)
        rw [← eh] at w2
        simp only [Heap.size_push] at w2
        exact w2
      · have w := Heap.get?_push_size (((hp.push o1).push o2).push { cls := .type "tuple", data := .seq #[.ref hp.objs.size, .ref (hp.push o1).objs.size] }) (o := { cls := .type "tuple", data := .seq #[.none, .none] }) rfl
        have w2 := Heap.get?_push_of_some { cls := .type "zip", data := .fields #[.none, .bool false, .bool false, .ref ((hp.push o1).push o2).objs.size, .ref (((hp.push o1).push o2).push { cls := .type "tuple", data := .seq #[.ref hp.objs.size, .ref (hp.push o1).objs.size] }).objs.size] } w
        rw [← eh] at w2
        simp only [Heap.size_push] at w2
        exact w2
      · exact a1.up' fun o w => by rw [eh]; exact Heap.get?_push_of_some _ (Heap.get?_push_of_some _ (Heap.get?_push_of_some _ (Heap.get?_push_of_some _ w)))
      · exact a2.up' fun o w => by rw [eh]; exact Heap.get?_push_of_some _ (Heap.get?_push_of_some _ (Heap.get?_push_of_some _ w))
    clear q
    cases b <;> cases c
    · have L1 : Heap.IsList (Shared.heap ⟨hp, g, d, tk, os⟩) l xs := g1
      have L2 : Heap.IsList (Shared.heap ⟨hp.push { cls := .type "list_iterator", data := .fields #[.ref l, .int 0 0] }, g, d, tk, os⟩) m ys := Heap.IsList.push g2 _
      wp_walk using wpAny_pyIter_list L1, wpAny_pyIter_list L2
      exact ⟨_, rfl, fin _ _ ⟨_, Heap.get?_push_size _ rfl, rfl, rfl⟩ ⟨_, Heap.get?_push_size _ rfl, rfl, rfl⟩ _ _ rfl (by simp only [Heap.size_push])⟩
    · have L1 : Heap.IsList (Shared.heap ⟨hp, g, d, tk, os⟩) l xs := g1
      have L2 : Heap.IsTuple (Shared.heap ⟨hp.push { cls := .type "list_iterator", data := .fields #[.ref l, .int 0 0] }, g, d, tk, os⟩) m ys := Heap.IsTuple.push g2 _
      wp_walk using wpAny_pyIter_list L1, wpAny_pyIter_tuple L2
      exact ⟨_, rfl, fin _ _ ⟨_, Heap.get?_push_size _ rfl, rfl, rfl⟩ ⟨_, Heap.get?_push_size _ rfl, rfl, rfl⟩ _ _ rfl (by simp only [Heap.size_push])⟩
    · have L1 : Heap.IsTuple (Shared.heap ⟨hp, g, d, tk, os⟩) l xs := g1
      have L2 : Heap.IsList (Shared.heap ⟨hp.push { cls := .type "tuple_iterator", data := .fields #[.ref l, .int 0 0] }, g, d, tk, os⟩) m ys := Heap.IsList.push g2 _
      wp_walk using wpAny_pyIter_tuple L1, wpAny_pyIter_list L2
      exact ⟨_, rfl, fin _ _ ⟨_, Heap.get?_push_size _ rfl, rfl, rfl⟩ ⟨_, Heap.get?_push_size _ rfl, rfl, rfl⟩ _ _ rfl (by simp only [Heap.size_push])⟩
    · have L1 : Heap.IsTuple (Shared.heap ⟨hp, g, d, tk, os⟩) l xs := g1
      have L2 : Heap.IsTuple (Shared.heap ⟨hp.push { cls := .type "tuple_iterator", data := .fields #[.ref l, .int 0 0] }, g, d, tk, os⟩) m ys := Heap.IsTuple.push g2 _
      wp_walk using wpAny_pyIter_tuple L1, wpAny_pyIter_tuple L2
      exact ⟨_, rfl, fin _ _ ⟨_, Heap.get?_push_size _ rfl, rfl, rfl⟩ ⟨_, Heap.get?_push_size _ rfl, rfl, rfl⟩ _ _ rfl (by simp only [Heap.size_push])⟩
/-- what stands at a, of that kind -/
def Sq (b : Bool) (K : PySem.W.Frag) (H : Hp) (a : Addr) (xs : List V) : Prop := match b with
  | true => SqT K H a xs
  | false => SqL K H a xs
section
variable {X : Cx} {pins : List (Addr × Obj)} {σ : L2.St} {H : Hp} {s : Shared} {b c : Bool} {a : Addr} {xs ys : List V}
theorem Sq.at (I : Inv X pins σ H s) (h : Sq b X.K H a xs) : ∃ its : List Value, Vals xs its ∧ Has b s.heap a its.toArray := by
  cases b
  · obtain ⟨its, r, p, _⟩ := I.list h
    exact ⟨its, r, p.isList⟩
  · obtain ⟨its, r, p, _⟩ := I.tuple h
    exact ⟨its, r, p⟩
theorem Sq.inj (I : Inv X pins σ H s) (h : Sq b X.K H a xs) (h' : Sq b X.K H a ys) : xs = ys := by
  cases b
  · exact I.list_inj h h'
  · exact I.tuple_inj h h'
end
/-- the things at a and b at each turn, the items in new pairs -/
def Iz (b c : Bool) (K : PySem.W.Frag) (l m : Addr) : It :=
  ⟨fun i H => ∃ (xs ys : List V) (x y : V), Sq b K H l xs ∧ Sq c K H m ys ∧ xs[i]? = some x ∧ ys[i]? = some y,
    fun i H v H' => ∃ T x y, v = .ref T ∧ H T = none ∧ H' = upd H T (.tup [x, y]) ∧ (∀ xs, Sq b K H l xs → xs[i]? = some x) ∧ ∀ ys, Sq c K H m ys → ys[i]? = some y,
    fun i H => ∃ xs ys : List V, Sq b K H l xs ∧ Sq c K H m ys ∧ (xs.length ≤ i ∨ ys.length ≤ i)⟩
theorem turns {P : Program} {w : World} {K : PySem.W.Frag} {elts : List Expr} {kk : Nat} {tp : Pos} {b c : Bool} {l m z TI TO i1 i2 : Addr} (D : ZipApart z TI TO i1 i2 l m) :
    Turn P w K (.Tuple elts kk tp) (Iz b c K l m) [z, TI, TO, i1, i2] z (fun i h => IsZip h z TI TO .none ∧ IsPair h TI (.ref i1) (.ref i2) ∧ (∃ x y, IsPair h TO x y) ∧ At b h i1 l i ∧ At c h i2 m i) where
  mem := List.mem_cons_self
  obj := by
    rintro i h ⟨gz, gI, ⟨x, y, gO⟩, a1, a2⟩ d hd
    have e : d = z ∨ d = TI ∨ d = TO ∨ d = i1 ∨ d = i2 := by simpa using hd
    rcases e with rfl | rfl | rfl | rfl | rfl
    · exact ⟨_, gz, fun v q => nomatch q⟩
    · exact ⟨_, gI, fun v q => nomatch q⟩
    · exact ⟨_, gO, fun v q => nomatch q⟩
    · exact a1.obj
    · exact a2.obj
  keep := by
    rintro i h h' ⟨gz, gI, ⟨x, y, gO⟩, a1, a2⟩ k
    exact ⟨k z (by simp) _ gz, k TI (by simp) _ gI, ⟨x, y, k TO (by simp) _ gO⟩, a1.up' fun o q => k i1 (by simp) o q, a2.up' fun o q => k i2 (by simp) o q⟩
  item := by
    intro X hP hw hK hc i pins s σ H E I hf st hg
    subst hP hw hK
    obtain ⟨gz, gI, ⟨x0, y0, gO⟩, a1, a2⟩ := st
    obtain ⟨xs, ys, x, y, q1, q2, hx, hy⟩ := hg
    obtain ⟨its, r1, p1⟩ := q1.at I
    obtain ⟨jts, r2, p2⟩ := q2.at I
    obtain ⟨u, hu, ru⟩ := r1.get hx
    obtain ⟨v, hv, rv⟩ := r2.get hy
    have lz : z < s.heap.objs.size := Heap.lt_size gz
    have tz : s.TypeIs (.ref z) "zip" := ⟨_, gz, rfl⟩
    unfold pyNext
    refine wpAny_bind (wpAny_attempt (wpAny_callSpecial?_slot (name := Str.ofString "__next__") tz F.slot_zip_next (wpAny_call_entry F.slot_zip_next tz F.entry_zip_next
      (pair D gz gI gO a1 a2 p1 p2 (x := u) (y := v) (by simpa using hu) (by simpa using hv) fun h' z' O' b1 b2 hT hk => wpAny_pure ?_) (F.args_zip_next_1 _))))
    refine ⟨_, rfl, wpAny_letOwnedTupleGo_zip (s := { s with heap := h' }) z' fun h2 z2 sb => ?_⟩
    have T2 : h2.get? s.heap.objs.size = some { cls := .type "tuple", data := .seq #[u, v] } := (sb.2 _ (Nat.ne_of_gt lz)).trans hT
    have new : ObjOk X.prog X.w (upd H s.heap.objs.size (.tup [x, y])) h2 s.heap.objs.size (.tup [x, y]) := ⟨by show 2 ≤ sizeLine; decide, [u, v], .cons ru (.cons rv .nil), ⟨_, T2, rfl, _, rfl⟩⟩
    have I2 : Inv X pins σ (upd H s.heap.objs.size (.tup [x, y])) { s with heap := h2 } :=
      I.turnedNew (t' := s.toks) (ch := [z, TI, TO, i1, i2]) (fun d o hd q => by
        have nz : d ≠ z ∧ d ≠ TI ∧ d ≠ TO ∧ d ≠ i1 ∧ d ≠ i2 := by simpa using hd
        exact (sb.2 d nz.1).trans (hk d o nz.1 nz.2.2.1 nz.2.2.2.1 nz.2.2.2.2 q)) hf (Nat.le_refl _) new
    refine ⟨.ref s.heap.objs.size, _, I2, rfl, ⟨_, x, y, rfl, I.hok.fresh (Nat.le_refl _), rfl, fun zs hz => by rw [hz.inj I q1]; exact hx, fun zs hz => by rw [hz.inj I q2]; exact hy⟩,
      ⟨z2, (sb.2 _ D.TIz).trans (hk _ _ D.TIz D.TITO D.TIi1 D.TIi2 gI), ⟨u, v, (sb.2 _ D.TOz).trans O'⟩, b1.up' fun o q => (sb.2 _ D.i1z).trans q, b2.up' fun o q => (sb.2 _ D.i2z).trans q⟩, fun d hd => ?_⟩
    have lt : d < s.heap.objs.size := by
      have e : d = z ∨ d = TI ∨ d = TO ∨ d = i1 ∨ d = i2 := by simpa using hd
      rcases e with rfl | rfl | rfl | rfl | rfl
      · exact lz
      · exact Heap.lt_size gI
      · exact Heap.lt_size gO
      · obtain ⟨o, e, _⟩ := a1.obj; exact Heap.lt_size e
      · obtain ⟨o, e, _⟩ := a2.obj; exact Heap.lt_size e
    rw [upd_ne (Nat.ne_of_lt lt)]
    exact (hf d hd).1
  done := by
    intro X hP hw hK hc i pins s σ H E I hf st hg
    subst hP hw hK
    obtain ⟨gz, gI, ⟨x0, y0, gO⟩, a1, a2⟩ := st
    obtain ⟨xs, ys, q1, q2, en⟩ := hg
    obtain ⟨its, r1, p1⟩ := q1.at I
    obtain ⟨jts, r2, p2⟩ := q2.at I
    have n1 := r1.length
    have n2 := r2.length
    have he : its.toArray[i]? = none ∨ jts.toArray[i]? = none := en.imp (fun q => by simp; omega) (fun q => by simp; omega)
    have tz : s.TypeIs (.ref z) "zip" := ⟨_, gz, rfl⟩
    unfold pyNext
    refine wpAny_bind (wpAny_attempt (wpAny_callSpecial?_slot (name := Str.ofString "__next__") tz F.slot_zip_next (wpAny_call_entry F.slot_zip_next tz F.entry_zip_next
      (noPair (I.ok.hd hc) D gz gI gO a1 a2 p1 p2 he fun h' e hk ⟨o, eo, co⟩ => ?_) (F.args_zip_next_1 _))))
    refine wpAny_bind (wpAny_isInstance (T := "StopIteration") (b := true) ⟨o, eo, co⟩ isSubtype_stop (wpAny_pure ⟨rfl, ?_⟩))
    exact I.turnedL (t' := s.toks) (ch := [z, TI, TO, i1, i2]) (fun d o hd q => by
      have nz : d ≠ z ∧ d ≠ TI ∧ d ≠ TO ∧ d ≠ i1 ∧ d ≠ i2 := by simpa using hd
      exact hk d o nz.1 nz.2.2.1 nz.2.2.2.1 nz.2.2.2.2 q) hf
  self := fun A i s Q E st h => wpAny_pyIter_zip st.1 h
def iZB (K : PySem.W.Frag) (ta : TA) : TI := fun σ H R => ta σ H fun vs H1 => ∃ b c l m xs ys, vs = [.ref l, .ref m] ∧ Sq b K H1 l xs ∧ Sq c K H1 m ys ∧ R (Iz b c K l m) H1
theorem pi_zB {X : Cx} {e e2 : Expr} {ta : TA} {p pos tp : Pos} {elts : List Expr} {kk : Nat} (hg : Gl X "zip") (hm : X.mg "zip" = none) (ha : PA X [e, e2] ta)
    (hs : starEach [e, e2] X.env = (false, eval e X.env) :: starEach [e2] X.env := by rfl) (hpl : (backTo pos (starEach [e2] X.env)).any (·.1) = false := by rfl) :
    PI X (.Tuple elts kk tp) (.Call (.Name "zip" p) [e, e2] [] pos) (iZB X.K ta) := ⟨fun pins s σ H R I h => by
  refine Call_ (ld_blt I hg hm PyProof.Rows.boot_zip (PyProof.Rows.callWith_type1 (thn (ha.run pos pins s σ H _ I h) ?_) hs hpl))
  rintro us s1 ⟨vs, H1, I1, r1, b, c, l, m, xs, ys, rfl, q1, q2, q⟩
  cases r1 with
  | cons ra rr =>
    cases rr with
    | cons rb rr =>
      cases rr; cases ra; cases rb
      obtain ⟨its, v1, p1⟩ := q1.at I1
      obtain ⟨jts, v2, p2⟩ := q2.at I1
      refine callType_new F.called_zip (by decide) (F.typeCall_zip_2 _ _) (F.newCall_zip_2 _ _) (fun obj => F.args_object_init_3 obj _ _) F.entry_zip_new
        (made b c l m its.toArray jts.toArray) ⟨p1, p2, fun h' gz gI gO a1 a2 hk => ⟨⟨_, gz, rfl⟩, wpAny_pyIter_zip gz ?_⟩⟩
      have hle : ∀ d ∈ [s1.heap.objs.size + 4, s1.heap.objs.size + 2, s1.heap.objs.size + 3, s1.heap.objs.size, s1.heap.objs.size + 1], s1.heap.objs.size ≤ d := fun d hd => by
        have e : d = s1.heap.objs.size + 4 ∨ d = s1.heap.objs.size + 2 ∨ d = s1.heap.objs.size + 3 ∨ d = s1.heap.objs.size ∨ d = s1.heap.objs.size + 1 := by simpa using hd
        omega
      exact ⟨_, [s1.heap.objs.size + 4, s1.heap.objs.size + 2, s1.heap.objs.size + 3, s1.heap.objs.size, s1.heap.objs.size + 1], _, _, H1, rfl, I1.kept (t' := s1.toks) hk,
        turns (PySem.W.ktu_apart s1.heap.objs.size l m p1.lt p2.lt), ⟨gz, gI, ⟨_, _, gO⟩, a1, a2⟩, fun d hd => I1.fpOk (hle d hd) (I1.hok.fresh (hle d hd)), q⟩⟩
end ZB
namespace DL
open PySem L2 RZ
open Evl (Ex)
section
variable {K : PySem.W.Frag} {G G' F H H' : Hp} {h h' : DH} {δ : DSt} {x y : D} {ds xs ys : List D} {Q' : List D → (DH → Prop) → DH → Prop}
/-- of which kind -/
def kindD : D → Bool
  | .tup _ => true
  | _ => false
theorem IsS.sq (l : IsS h x ds) (rh : RH K G F h H) {p : Addr} (r : Rp K G x (.ref p)) : ∃ vs, ZB.Sq (kindD x) K H p vs ∧ Rps K G ds vs := by
  cases l with
  | tup =>
    cases r with
    | tup hs r => exact ⟨_, Evl.ex_t rh.ex hs, r⟩
  | lst l =>
    obtain ⟨q, vs, e, h1, h2⟩ := l.of rh r
    cases e
    cases l <;> exact ⟨vs, h1, h2⟩
theorem IsS.ref (l : IsS h x ds) (rh : RH K G F h H) {v : V} (r : Rp K G x v) : ∃ p, v = .ref p := by
  obtain ⟨p, _, e, _⟩ := l.of rh r
  exact ⟨p, e⟩
theorem src_zB {p q : Addr} (r : Rp K G x (.ref p)) (r2 : Rp K G y (.ref q)) : Src K G (ZB.Iz (kindD x) (kindD y) K p q) (zipD xs ys) (fun h => IsS h x xs ∧ IsS h y ys) where
  stop G' F h H i e rh c l := by
    rw [zipD_len] at l
    obtain ⟨vs, h1, h2⟩ := c.1.sq rh (r.mono e)
    obtain ⟨ws, h3, h4⟩ := c.2.sq rh (r2.mono e)
    exact ⟨vs, ws, h1, h3, by rw [← h2.length, ← h4.length]; omega⟩
  go G' F h H i d e rh c q := by
    obtain ⟨a, b, k1, k2, _⟩ := zipD_get q
    obtain ⟨vs, h1, h2⟩ := c.1.sq rh (r.mono e)
    obtain ⟨ws, h3, h4⟩ := c.2.sq rh (r2.mono e)
    obtain ⟨v, g1, _⟩ := h2.get k1
    obtain ⟨w, g2, _⟩ := h4.get k2
    exact ⟨vs, ws, v, w, h1, h3, g1, g2⟩
  yld G' F h H i d x0 H' e rh c q0 yy := by
    obtain ⟨a, b, k1, k2, rfl⟩ := zipD_get q0
    obtain ⟨vs, h1, h2⟩ := c.1.sq rh (r.mono e)
    obtain ⟨ws, h3, h4⟩ := c.2.sq rh (r2.mono e)
    obtain ⟨v, g1, rv⟩ := h2.get k1
    obtain ⟨w, g2, rw'⟩ := h4.get k2
    obtain ⟨T, a', b', rfl, hT, rfl, m1, m2⟩ := yy
    have q1 := m1 vs h1
    have q2 := m2 ws h3
    rw [g1] at q1; rw [g2] at q2; cases q1; cases q2
    obtain ⟨ex, rh2, gp, _⟩ := rh.grow hT (.tup [v, w])
    exact ⟨_, ex, rh2, .tup (Or.inl (Or.inl gp)) (.cons (rv.mono ex) (.cons (rw'.mono ex) .nil))⟩
theorem i_zB {ta : TA} (hl : dA K ta δ h (fun zs h1 => ∃ x y xs ys, zs = [x, y] ∧ IsS h1 x xs ∧ IsS h1 y ys ∧ Q' (zipD xs ys) (fun h' => IsS h' x xs ∧ IsS h' y ys) h1)) : dI K (ZB.iZB K ta) δ h Q' := fun G F σ H rh sl R k => by
  refine hl G F σ H rh sl _ ?_
  rintro vs H1 ⟨G1, ds, h1, e1, rh1, rv, x, y, xs, ys, rfl, l1, l2, q⟩
  cases rv with
  | cons r0 r1 =>
    cases r1 with
    | cons r1 r2 =>
      cases r2
      obtain ⟨p, rfl⟩ := l1.ref rh1 r0
      obtain ⟨p2, rfl⟩ := l2.ref rh1 r1
      obtain ⟨vs, hs, _⟩ := l1.sq rh1 r0
      obtain ⟨ws, hs2, _⟩ := l2.sq rh1 r1
      exact ⟨_, _, _, _, _, _, rfl, hs, hs2, k _ _ G1 h1 _ _ e1 rh1 (src_zB r0 r1) ⟨l1, l2⟩ q⟩
end
end DL
set_option maxHeartbeats 2000000
/-! DL: more methods of lists. -/
namespace L2
open PySem PySem.Spec PyProof.Rows
theorem ty_list_index : typeOf (.builtin "list.index") = pure (.type "method_descriptor") := by kernel_rfl
theorem ty_list_count : typeOf (.builtin "list.count") = pure (.type "method_descriptor") := by kernel_rfl
theorem ty_list_extend : typeOf (.builtin "list.extend") = pure (.type "method_descriptor") := by kernel_rfl
theorem ty_list_insert : typeOf (.builtin "list.insert") = pure (.type "method_descriptor") := by kernel_rfl
section
variable {X : Cx}
theorem count_eqU {x : V} : ∀ {xs : List V} {us : List Value}, Vals xs us → xs.all flatV = true → us.countP (eqU x) = xs.countP fun y => eqV y x
  | _, _, .nil, _ => rfl
  | y :: xs, u :: us, .cons r t, f => by
    rw [List.all_cons, Bool.and_eq_true] at f
    rw [List.countP_cons, List.countP_cons, count_eqU t f.2, eqU_of r f.1]
def rCountF (K : PySem.W.Frag) : V → List V → Hp → VK → Prop := fun x xs H Q => ∃ (a : Addr) (ys : List V) (y : V), x = .ref a ∧ xs = [y] ∧ SqL K H a ys ∧ flatV y = true ∧ ys.all flatV = true ∧ Q (.int (ys.countP fun z => eqV z y : Nat)) H
theorem mt_countF : MtR X "list.count" (rCountF X.K) := by
  rintro pins s σ H x xs v us Q I rx rxs ⟨a, ys, y, rfl, rfl, hs, fy, fys, q⟩
  cases rx
  obtain ⟨u, rfl, ru⟩ := rxs.one
  obtain ⟨its, rv, ⟨⟨cls, dd, data, sl⟩, n, ho, hc, hdn, hd⟩, hlen⟩ := I.list hs
  simp only at hc hd
  subst hc hd
  refine call_meets PySem.F.slot_list_count ⟨_, ho, rfl⟩ PySem.F.entry_list_count (PySem.F.args_list_count_2 _ _) (SeqAt.list_countAt a its.toArray n dd sl u (eqU y)) ⟨ho, fun u' hu' => mem_eqAt ru fy rv fys u' (by simpa using hu'), ?_⟩
  refine ⟨.int (ys.countP fun z => eqV z y : Nat), H, I.tok _, ⟨s.toks, ?_⟩, q⟩
  have e : its.toArray.toList.countP (eqU y) = ys.countP fun z => eqV z y := count_eqU rv fys
  rw [e]
end
end L2
namespace DL
open PySem L2
open Evl (Ex)
/-- flat data as the model's values -/
def flD : D → Bool
  | .non => true
  | .bl _ => true
  | .int _ => true
  | .str _ => true
  | _ => false
def vD : D → V
  | .non => .non
  | .bl b => .bl b
  | .int i => .int i
  | .str s => .str s
  | _ => .non
def eqD (x y : D) : Bool := eqV (vD x) (vD y)
section
variable {K : PySem.W.Frag} {G G' F H H' : Hp} {h h' : DH} {Q : DK} {δ : DSt} {d x y z : D} {ds xs : List D} {a p l : Addr}
theorem fl_v {v : V} (r : Rp K G x v) (f : flD x = true) : v = vD x ∧ flatV v = true := by
  cases r <;> first | exact ⟨rfl, rfl⟩ | exact Bool.noConfusion f
theorem fl_vs : ∀ {ds : List D} {vs : List V}, Rps K G ds vs → ds.all flD = true → vs = ds.map vD ∧ vs.all flatV = true
  | _, _, .nil, _ => ⟨rfl, rfl⟩
  | _, _, .cons r t, f => by
    rw [List.all_cons, Bool.and_eq_true] at f
    obtain ⟨e1, e2⟩ := fl_v r f.1
    obtain ⟨e3, e4⟩ := fl_vs t f.2
    subst e1; subst e3
    exact ⟨rfl, by rw [List.all_cons, e2, e4]; rfl⟩
theorem m_count (g : IsL h x ds) (f : flD y = true) (fs : ds.all flD = true) (q : Q (.int (ds.countP fun z => eqD z y : Nat)) h) : dM K (rCountF K) x [y] h Q := fun G F H vx vs rh rx rs QV k => by
  cases rs with
  | cons r0 r1 =>
    cases r1
    obtain ⟨p, ws, rfl, h1, h2⟩ := g.of rh rx
    obtain ⟨e1, e2⟩ := fl_v r0 f
    obtain ⟨e3, e4⟩ := fl_vs h2 fs
    subst e1; subst e3
    refine ⟨p, _, _, rfl, rfl, h1, e2, e4, ?_⟩
    rw [List.countP_map]
    exact k _ _ (.of rh (.int _) q)
theorem m_index {j : Nat} (g : IsL h x ds) (f : flD y = true) (fs : ds.all flD = true) (hj : ds[j]? = some z) (hz : eqD z y = true) (hno : ∀ m z', m < j → ds[m]? = some z' → eqD z' y = false) (q : Q (.int (j : Nat)) h) : dM K (rIndex K) x [y] h Q := fun G F H vx vs rh rx rs QV k => by
  cases rs with
  | cons r0 r1 =>
    cases r1
    obtain ⟨p, ws, rfl, h1, h2⟩ := g.of rh rx
    obtain ⟨e1, e2⟩ := fl_v r0 f
    obtain ⟨e3, e4⟩ := fl_vs h2 fs
    subst e1; subst e3
    refine ⟨p, _, _, j, vD z, rfl, rfl, h1, e2, e4, by rw [List.getElem?_map, hj]; rfl, hz, fun m z' hm e => ?_, k _ _ (.of rh (.int _) q)⟩
    rw [List.getElem?_map] at e
    cases e5 : ds[m]? with
    | none => rw [e5] at e; cases e
    | some d =>
      rw [e5] at e; cases e
      exact hno m d hm e5
theorem m_extend {es : List D} (e : h l = some (.lst ds)) (g : IsM h y es) (hz : ds.length + es.length ≤ 100000) (q : Q .non (dupd h l (.lst (ds ++ es)))) : dM K rExtend (.ref l) [y] h Q := fun G F H vx vs rh rx rs QV k => by
  cases rx
  cases rs with
  | cons r0 r1 =>
    cases r1
    obtain ⟨_, u, e1, e2⟩ := rh.own _ _ e
    obtain ⟨ws, rfl, rw'⟩ := rpo_lst e2
    obtain ⟨p2, zs, rfl, h2, r2⟩ := g.of rh r0
    exact ⟨l, p2, ws, zs, rfl, rfl, e1, h2, Evl.sz_of (by rw [← rw'.length, ← r2.length]; exact hz), k _ _ ⟨G, .non, _, Ex.refl G, rh.write e (o := .lst (ds ++ es)) (u := .lst (ws ++ zs)) (rw'.append r2), .non, q⟩⟩
/-! ### enumerate of a list -/
def enumD (ds : List D) : List D := ds.mapIdx fun i d => D.tup [.int (i : Nat), d]
theorem enumD_len {ds : List D} : (enumD ds).length = ds.length := List.length_mapIdx
theorem enumD_get {ds : List D} {i : Nat} {d : D} (e : (enumD ds)[i]? = some d) : ∃ x, ds[i]? = some x ∧ d = .tup [.int (i : Nat), x] := by
  unfold enumD at e
  rw [List.getElem?_mapIdx] at e
  cases q : ds[i]? with
  | none => rw [q] at e; cases e
  | some x => rw [q] at e; cases e; exact ⟨x, rfl, rfl⟩
theorem src_e {p : Addr} (r : Rp K G x (.ref p)) : Src K G (Ite K p) (enumD ds) (fun h => IsL h x ds) where
  stop G' F h H i e rh c l := by
    rw [enumD_len] at l
    obtain ⟨vs, h1, h2⟩ := IsS.ofL c rh (r.mono e)
    exact ⟨vs, h1, by rw [← h2.length]; exact l⟩
  go G' F h H i d e rh c q := by
    obtain ⟨y, k1, _⟩ := enumD_get q
    obtain ⟨vs, h1, h2⟩ := IsS.ofL c rh (r.mono e)
    obtain ⟨v, g1, _⟩ := h2.get k1
    exact ⟨vs, v, h1, g1⟩
  yld G' F h H i d x0 H' e rh c q0 yy := by
    obtain ⟨y, k1, rfl⟩ := enumD_get q0
    obtain ⟨vs, h1, h2⟩ := IsS.ofL c rh (r.mono e)
    obtain ⟨v, g1, rv⟩ := h2.get k1
    obtain ⟨T, z, rfl, hT, rfl, m1⟩ := yy
    have q1 := m1 vs h1
    rw [g1] at q1; cases q1
    obtain ⟨ex, rh2, gp, _⟩ := rh.grow hT (.tup [.int (i : Nat), v])
    exact ⟨_, ex, rh2, .tup (Or.inl (Or.inl gp)) (.cons (.int _) (.cons (rv.mono ex) .nil))⟩
theorem i_enum {ta : TA} {Q' : List D → (DH → Prop) → DH → Prop} (hl : dA K ta δ h (fun zs h1 => ∃ x ds, zs = [x] ∧ IsL h1 x ds ∧ Q' (enumD ds) (fun h' => IsL h' x ds) h1)) : dI K (iEnum K ta) δ h Q' := fun G F σ H rh sl R k => by
  refine hl G F σ H rh sl _ ?_
  rintro vs H1 ⟨G1, ds, h1, e1, rh1, rv, x, xs, rfl, l1, q⟩
  cases rv with
  | cons r0 r1 =>
    cases r1
    obtain ⟨p, vs, rfl, hs, r⟩ := l1.of rh1 r0
    exact ⟨_, _, rfl, hs, k _ _ G1 h1 _ _ e1 rh1 (src_e r0) l1 q⟩
variable {te : TE} {wi : TI} {g : TG}
/-- every item's value, nothing owned changed; the new list is owned -/
theorem e_lcMO {vs : List Nat} (hw : GW g vs) (hi : dI K wi δ h (fun ds C h1 => ds.length ≤ 100000 ∧ C h1 ∧ ∃ ys : List D, ys.length = ds.length ∧
    (∀ (i : Nat) d, ds[i]? = some d → dG K g d (dwipe δ vs) h1 (fun δ2 h2 => dE K te δ2 h2 (fun y h3 => h3 = h1 ∧ ys[i]? = some y))) ∧ ∀ p, h1 p = none → Q (.ref p) (dupd h1 p (.lst ys)))) : dE K (tLc wi g tYes te vs) δ h Q := by
  refine e_lcX hw ?_
  intro G F σ H rh sl R k
  refine hi G F σ H rh sl _ ?_
  rintro J H' G' h' ds C e1 rh1 src c0 ⟨hz, hc, ys, hl, hs, q⟩
  refine k J H' G' h' ds C e1 rh1 src c0 ⟨hz, fun i acc h2 => h2 = h' ∧ acc = ys.take i, ⟨rfl, rfl⟩, ?_, ?_, ?_⟩
  · rintro i acc h2 ⟨rfl, _⟩
    exact hc
  · rintro i d acc h2 hd ⟨rfl, rfl⟩ _
    intro G F σ H v rh sl rv QV k
    refine hs i d hd G F σ H v rh sl rv QV ?_
    rintro σ' H' ⟨G', δ', h', e, rh', sl', q'⟩
    refine k _ _ ⟨G', δ', h', e, rh', sl', ?_⟩
    intro G F σ H rh sl QB kb
    refine kb _ _ ⟨G, h', Ex.refl _, rh, fun _ => ?_, fun e => Bool.noConfusion e⟩
    intro G F σ H rh sl QV kv
    refine q' G F σ H rh sl QV ?_
    rintro v' H'' ⟨G'', d'', h'', e'', rh'', rv'', rfl, ey⟩
    refine kv _ _ ⟨G'', d'', _, e'', rh'', rv'', rfl, ?_⟩
    rw [List.take_add_one, ey]
    rfl
  · rintro acc h2 ⟨rfl, rfl⟩
    right
    rw [← hl, List.take_length]
    exact q
/-- what is owned is let go behind an expression -/
theorem e_letgo (a : Addr) (s : dE K te δ h (fun d h1 => Q d (derase h1 a))) : dE K te δ h Q := fun G F σ H rh sl QV k => by
  refine s G F σ H rh sl QV ?_
  rintro v H1 ⟨G1, d, h1, e1, rh1, rv, q⟩
  exact k _ _ ⟨G1, d, _, e1, rh1.drop, rv, q⟩
/-- a, b = x, y -/
theorem s_par {ta : TA} {i j : Nat} {nx bk ct : DP} {rt : DK} (he : dA K ta δ h (fun xs h1 => ∃ x y, xs = [x, y] ∧ nx ((δ.set i (some x)).set j (some y)) h1)) : dS K (tPar i j ta) nx rt bk ct δ h := fun G F σ H rh sl Z l => by
  refine he G F σ H rh sl _ ?_
  rintro vs H1 ⟨G1, ds, h1, e1, rh1, rv, x, y, rfl, q⟩
  cases rv with
  | cons r0 r1 =>
    cases r1 with
    | cons r1 r2 =>
      cases r2
      exact ⟨_, _, rfl, l.1 _ _ ⟨G1, _, h1, e1, rh1, sl_set (.some r1) j (sl_set (.some r0) i (sl_mono e1 sl)), q⟩⟩
theorem at_in {α : Type} {xs : List α} {n : Int} (h0 : 0 ≤ n) (h1 : n < xs.length) : ∃ d, atI xs n = some d ∧ xs[n.toNat]? = some d := by
  have hl : n.toNat < xs.length := by omega
  refine ⟨xs[n.toNat], ?_, List.getElem?_eq_getElem hl⟩
  unfold atI ixN
  rw [if_pos h0, if_pos h1]
  exact List.getElem?_eq_getElem hl
end
end DL
set_option maxHeartbeats 2000000
/-! DL: == of plain data. -/
namespace DL
open PySem L2
mutual
def toP : D → PyData
  | .non => .none
  | .bl b => .bool b
  | .int i => .int i
  | .str s => .str s
  | .tup ds => .tuple (toPs ds)
  | .lst ds => .list (toPs ds)
  | .rd ds => .list (toPs ds)
  | .ty _ => .none
  | .ref _ => .none
def toPs : List D → List PyData
  | [] => []
  | d :: ds => toP d :: toPs ds
end
mutual
def plD : D → Bool
  | .ty _ => false
  | .ref _ => false
  | .tup ds => plDs ds
  | .lst ds => plDs ds
  | .rd ds => plDs ds
  | .str s => PyData.strOk s
  | _ => true
def plDs : List D → Bool
  | [] => true
  | d :: ds => plD d && plDs ds
end
mutual
def dpD : D → Nat
  | .tup ds => dpDs ds + 1
  | .lst ds => dpDs ds + 1
  | .rd ds => dpDs ds + 1
  | _ => 0
def dpDs : List D → Nat
  | [] => 0
  | d :: ds => max (dpD d) (dpDs ds)
end
mutual
theorem dpy_toP (h : DH) : ∀ d : D, plD d = true → DPy h d (toP d)
  | .non, _ => .non
  | .bl b, _ => .bl b
  | .int i, _ => .int i
  | .str s, _ => .str s
  | .tup ds, e => .tup (dpys_toP h ds e)
  | .lst ds, e => .lst (.frz ds) (dpys_toP h ds e)
  | .rd ds, e => .lst (.rd ds) (dpys_toP h ds e)
  | .ty _, e => Bool.noConfusion e
  | .ref _, e => Bool.noConfusion e
theorem dpys_toP (h : DH) : ∀ ds : List D, plDs ds = true → DPys h ds (toPs ds)
  | [], _ => .nil
  | d :: ds, e => by
    have e2 : (plD d && plDs ds) = true := e
    rw [Bool.and_eq_true] at e2
    exact .cons (dpy_toP h d e2.1) (dpys_toP h ds e2.2)
end
mutual
theorem lay_toP : ∀ d : D, plD d = true → (toP d).canLay0 = true
  | .non, _ | .bl _, _ | .int _, _ | .ty _, _ | .ref _, _ => rfl
  | .str s, e => e
  | .tup ds, e | .lst ds, e | .rd ds, e => lays_toP ds e
theorem lays_toP : ∀ ds : List D, plDs ds = true → PyData.canLayAll0 (toPs ds) = true
  | [], _ => rfl
  | d :: ds, e => by
    have e2 : (plD d && plDs ds) = true := e
    rw [Bool.and_eq_true] at e2
    show ((toP d).canLay0 && PyData.canLayAll0 (toPs ds)) = true
    rw [lay_toP d e2.1, lays_toP ds e2.2]; rfl
end
mutual
theorem depth_toP : ∀ d : D, (toP d).depth = dpD d
  | .non | .bl _ | .int _ | .str _ | .ty _ | .ref _ => rfl
  | .tup ds | .lst ds | .rd ds => by
    show PyData.depthAll (toPs ds) + 1 = dpDs ds + 1
    rw [depths_toP ds]
theorem depths_toP : ∀ ds : List D, PyData.depthAll (toPs ds) = dpDs ds
  | [] => rfl
  | d :: ds => by
    show max (toP d).depth (PyData.depthAll (toPs ds)) = max (dpD d) (dpDs ds)
    rw [depth_toP d, depths_toP ds]
end
theorem shaped_toP {d : D} (p : plD d = true) (h : dpD d ≤ 64) : SeqAt.shaped (toP d) = true := by
  unfold SeqAt.shaped
  rw [lay_toP d p, depth_toP, decide_eq_true h]; rfl
theorem eqv_toP {d : D} (p : plD d = true) : PyData.eqv (toP d) (toP d) = true := SeqAt.eqv_refl _ (lay_toP d p)
theorem plDs_map {α : Type} (f : α → D) (h : ∀ a, plD (f a) = true) : ∀ l : List α, plDs (l.map f) = true
  | [] => rfl
  | a :: l => by
    show (plD (f a) && plDs (l.map f)) = true
    rw [h a, plDs_map f h l]; rfl
theorem dpDs_map {α : Type} (f : α → D) (n : Nat) (h : ∀ a, dpD (f a) ≤ n) : ∀ l : List α, dpDs (l.map f) ≤ n
  | [] => Nat.zero_le _
  | a :: l => by
    show max (dpD (f a)) (dpDs (l.map f)) ≤ n
    have := h a
    have := dpDs_map f n h l
    omega
theorem plDs_of : ∀ {l : List D}, (∀ d ∈ l, plD d = true) → plDs l = true
  | [], _ => rfl
  | d :: l, h => by
    show (plD d && plDs l) = true
    rw [h d List.mem_cons_self, plDs_of fun x hx => h x (List.mem_cons_of_mem _ hx)]; rfl
theorem dpDs_of {n : Nat} : ∀ {l : List D}, (∀ d ∈ l, dpD d ≤ n) → dpDs l ≤ n
  | [], _ => Nat.zero_le _
  | d :: l, h => by
    show max (dpD d) (dpDs l) ≤ n
    have := h d List.mem_cons_self
    have := dpDs_of fun x hx => h x (List.mem_cons_of_mem _ hx)
    omega
theorem plDs_app : ∀ {l m : List D}, plDs l = true → plDs m = true → plDs (l ++ m) = true
  | [], _, _, h => h
  | d :: l, m, e, h => by
    have e2 : (plD d && plDs l) = true := e
    rw [Bool.and_eq_true] at e2
    show (plD d && plDs (l ++ m)) = true
    rw [e2.1, plDs_app e2.2 h]; rfl
section
variable {K : PySem.W.Frag} {h : DH} {Q : DK} {x y : D}
theorem r_eqP (px : plD x = true) (py : plD y = true) (dx : dpD x ≤ 64) (dy : dpD y ≤ 64) (q : Q (.bl (PyData.eqv (toP x) (toP y))) h) : dR K (rEqX K) x y h Q := r_eqD (dpy_toP h x px) (dpy_toP h y py) (shaped_toP px dx) (shaped_toP py dy) q
theorem r_neP (px : plD x = true) (py : plD y = true) (dx : dpD x ≤ 64) (dy : dpD y ≤ 64) (q : Q (.bl (!PyData.eqv (toP x) (toP y))) h) : dR K (rNeX K) x y h Q := r_neD (dpy_toP h x px) (dpy_toP h y py) (shaped_toP px dx) (shaped_toP py dy) q
end
end DL
set_option maxHeartbeats 4000000
/-! the walk: printed by gen.py -/
namespace Lw
open PySem PySem.Spec PyProof.Rows L2 DL
def top (i : Nat) : Stmt := PySem.Challenge.pw_hourhaul_k85_nets_laned_and_open.main.body.getD i (.Pass ⟨0, 0, 0, 0⟩)
structure Txt (K : PySem.W.Frag) (mg : Str → Option Value) : Prop where
  f_ValueError : mg "ValueError" = none
  f_abs : mg "abs" = none
  f_all : mg "all" = none
  f_bool : mg "bool" = none
  f_enumerate : mg "enumerate" = none
  f_int : mg "int" = none
  f_isinstance : mg "isinstance" = none
  f_len : mg "len" = none
  f_list : mg "list" = none
  f_max : mg "max" = none
  f_min : mg "min" = none
  f_range : mg "range" = none
  f_sum : mg "sum" = none
  f_tuple : mg "tuple" = none
  f_zip : mg "zip" = none
  c_MOST_LANES : ∃ u, mg "MOST_LANES" = some u ∧ RelV (V.int 6) u
  c_GREATEST_ROOM : ∃ u, mg "GREATEST_ROOM" = some u ∧ RelV (V.int 1000000000) u
  c_GREATEST_HOURS : ∃ u, mg "GREATEST_HOURS" = some u ∧ RelV (V.int 1000000) u
  c_MOST_PLACES : ∃ u, mg "MOST_PLACES" = some u ∧ RelV (V.int 6) u
  c_LEAST_PLACES : ∃ u, mg "LEAST_PLACES" = some u ∧ RelV (V.int 2) u
  c_MOST_WAYS : ∃ u, mg "MOST_WAYS" = some u ∧ RelV (V.int 12) u
  g_TooMany : mg "TooMany" = some (.ref (He.ga K "TooMany"))
  g_TooMuch : mg "TooMuch" = some (.ref (He.ga K "TooMuch"))
  g_HaulError : mg "HaulError" = some (.ref (He.ga K "HaulError"))
  g_BadHour : mg "BadHour" = some (.ref (He.ga K "BadHour"))
  g_NoWay : mg "NoWay" = some (.ref (He.ga K "NoWay"))
  e_TooMany : (He.Fa.exc "TooMany").ok K = true
  e_TooMuch : (He.Fa.exc "TooMuch").ok K = true
section
variable {P : Program} {w : World} {K : PySem.W.Frag} {mg : Str → Option Value} {base : Heap}
/-! ### look_at_lanes -/
abbrev st_look_at_lanes : Stmt := top 18
abbrev N_look_at_lanes : List Str := ["net"]
theorem sc_look_at_lanes : FnScope N_look_at_lanes ["net"] (defScope st_look_at_lanes) := ⟨rfl, rfl, rfl, by decide +kernel, rfl, by decide +kernel, by decide +kernel⟩
abbrev t_look_at_lanes (K : PySem.W.Frag)  (W : WX) : TS :=
    (tIfS (tTest (tOp rIGt (tCB (rLenX K) (tCons (tOp (rIx K) (tVar 0) (tC (.int 1))) tNil)) (tC (.int 6)))) (tRaiseC W (He.ga K "TooMany")) tNext)
theorem tm_look_at_lanes {k : Nat} {f : Addr} {cdv : Value} {A : Around} {outer : List Env} {s : Shared} {H : Hp} {E : XK}  (T : Txt K mg)  (hr : Room k (A.deeper (envOfC "look_at_lanes" (defScope st_look_at_lanes) s.heap.objs.size f cdv))) :
    PSs (cxOf (L2.CX P w) P w K mg base N_look_at_lanes "look_at_lanes" (defScope st_look_at_lanes) f cdv A outer s H E) (defBody st_look_at_lanes) (t_look_at_lanes K  fun c d _ H => E c d H) := by
  have nd := sc_look_at_lanes.nd
  have hu := hu64 hr
  have tk : Takes (cxOf (L2.CX P w) P w K mg base N_look_at_lanes "look_at_lanes" (defScope st_look_at_lanes) f cdv A outer s H E) (fun c d _ H => E c d H) := takes_of rfl rfl rfl rfl
  exact (pss_one (ps_if (pt_cmpR op_gtX (pe_callB call_lenX (by rfl) T.f_len (by decide +kernel) (pa_cons (pe_ix ix_seq (pv 0) pe_int (fun _ _ => rfl)) pa_nil)) (C8.pe_gc rfl T.c_MOST_LANES) (nomark _)) (pss_one (ps_raise rfl tk (pmk_own PySem.F.excBase_ValueError (He.exc_ok T.e_TooMany).1 T.g_TooMany (He.exc_ok T.e_TooMany).2.1 (raises_own (He.exc_ok T.e_TooMany).2.2.1 (He.exc_ok T.e_TooMany).2.2.2) rfl))) pss_nil))
/-! ### is_forth -/
abbrev st_is_forth : Stmt := top 19
abbrev N_is_forth : List Str := ["net", "forth", "part", "way"]
theorem sc_is_forth : FnScope N_is_forth ["net", "forth"] (defScope st_is_forth) := ⟨rfl, rfl, rfl, by decide +kernel, rfl, by decide +kernel, by decide +kernel⟩
abbrev t_is_forth_1 (K : PySem.W.Frag)  : TS :=
    (tRet (tCB (rAll K) (tCons (tLc (ZB.iZB K (tCons (tVar 1) (tCons (tOp (rIx K) (tVar 0) (tC (.int 1))) tNil))) (gTup K 2 (gCons (gName 2) (gCons (gName 3) gNil))) tYes (tChain rILe rILe (tC (.int 0)) (tVar 2) (tOp (rIx K) (tVar 3) (tC (.int 2)))) [2, 3]) tNil)))
abbrev t_is_forth (K : PySem.W.Frag)  : TS :=
    (tSeq (tIfS (tTest (tOp (rNeX K) (tCB (rLenX K) (tCons (tVar 1) tNil)) (tCB (rLenX K) (tCons (tOp (rIx K) (tVar 0) (tC (.int 1))) tNil)))) (tRet (tC (.bl false))) tNext) (t_is_forth_1 K ))
theorem tm_is_forth {k : Nat} {f : Addr} {cdv : Value} {A : Around} {outer : List Env} {s : Shared} {H : Hp} {E : XK}  (T : Txt K mg)  (hr : Room k (A.deeper (envOfC "is_forth" (defScope st_is_forth) s.heap.objs.size f cdv))) :
    PSs (cxOf C8.CX0 P w K mg base N_is_forth "is_forth" (defScope st_is_forth) f cdv A outer s H E).nox (defBody st_is_forth) (t_is_forth K ) := by
  have nd := sc_is_forth.nd
  have hu := hu64 hr
  exact (pss_cons (ps_if (pt_cmpR (op_neX hu) (pe_callB call_lenX (by rfl) T.f_len (by decide +kernel) (pa_cons (pv 1) pa_nil)) (pe_callB call_lenX (by rfl) T.f_len (by decide +kernel) (pa_cons (pe_ix ix_seq (pv 0) pe_int (fun _ _ => rfl)) pa_nil)) (nomark _)) (pss_one (ps_ret pe_bl)) pss_nil)
    (pss_one (ps_ret (pe_callB (cr_all rfl) (by rfl) T.f_all (by decide +kernel) (pa_cons (pe_lc (own := [("part", 2), ("way", 3)]) (g := (gTup K 2 (gCons (gName 2) (gCons (gName 3) gNil)))) (tt := tYes) rfl nd (ZB.pi_zB (by rfl) T.f_zip (pa_cons (pv 1) (pa_cons (pe_ix ix_seq (pv 0) pe_int (fun _ _ => rfl)) pa_nil))) (blkOk_by (by first | decide +kernel | kernel_rfl)) (fun _ _ _ _ _ => (pg_tup rfl (pgs_cons (pg_name (i := 2) nd rfl (by first | exact Or.inl rfl | exact Or.inr rfl)) (pgs_cons (pg_name (i := 3) nd rfl (by first | exact Or.inl rfl | exact Or.inr rfl)) pgs_nil)))) (fun _ _ _ _ _ => pts_nil) (fun _ _ _ _ _ => (pe_chain op_leX op_leX pe_int (pv 2) (pe_ix ix_seq (pv 3) pe_int (fun _ _ => rfl))))) pa_nil)))))
/-! ### parted_ways -/
abbrev st_parted_ways : Stmt := top 20
abbrev N_parted_ways : List Str := ["net", "forth", "back", "ways", "part", "way"]
theorem sc_parted_ways : FnScope N_parted_ways ["net", "forth", "back"] (defScope st_parted_ways) := ⟨rfl, rfl, rfl, by decide +kernel, rfl, by decide +kernel, by decide +kernel⟩
abbrev t_parted_ways_1 (K : PySem.W.Frag)  : TS :=
    (tRet (tTup (tCons (tOp (rIx K) (tVar 0) (tC (.int 0))) (tCons (tThen (tVar 3) (kTup K)) tNil))))
abbrev t_parted_ways_2 (K : PySem.W.Frag)  : TS :=
    (tSeq (tDrop (tBM K "list" rExtend (tVar 3) (tCons (tLc (ZB.iZB K (tCons (tVar 2) (tCons (tOp (rIx K) (tVar 0) (tC (.int 1))) tNil))) (gTup K 2 (gCons (gName 4) (gCons (gName 5) gNil))) tYes (tTup (tCons (tOp (rIx K) (tVar 5) (tC (.int 1))) (tCons (tOp (rIx K) (tVar 5) (tC (.int 0))) (tCons (tVar 4) (tCons (tOp (rIx K) (tVar 5) (tC (.int 3))) tNil))))) [4, 5]) tNil))) (t_parted_ways_1 K ))
abbrev t_parted_ways (K : PySem.W.Frag)  : TS :=
    (tSeq (tAsg (tLc (ZB.iZB K (tCons (tVar 1) (tCons (tOp (rIx K) (tVar 0) (tC (.int 1))) tNil))) (gTup K 2 (gCons (gName 4) (gCons (gName 5) gNil))) tYes (tTup (tCons (tOp (rIx K) (tVar 5) (tC (.int 0))) (tCons (tOp (rIx K) (tVar 5) (tC (.int 1))) (tCons (tVar 4) (tCons (tOp (rIx K) (tVar 5) (tC (.int 3))) tNil))))) [4, 5]) (gName 3)) (t_parted_ways_2 K ))
theorem tm_parted_ways {k : Nat} {f : Addr} {cdv : Value} {A : Around} {outer : List Env} {s : Shared} {H : Hp} {E : XK}  (T : Txt K mg)  (hr : Room k (A.deeper (envOfC "parted_ways" (defScope st_parted_ways) s.heap.objs.size f cdv))) :
    PSs (cxOf C8.CX0 P w K mg base N_parted_ways "parted_ways" (defScope st_parted_ways) f cdv A outer s H E).nox (defBody st_parted_ways) (t_parted_ways K ) := by
  have nd := sc_parted_ways.nd
  have hu := hu64 hr
  exact (pss_cons (ps_setLc (i := 3) (own := [("part", 4), ("way", 5)]) (g := (gTup K 2 (gCons (gName 4) (gCons (gName 5) gNil)))) (tt := tYes) (by rfl) nd rfl rfl (sw_true rfl rfl rfl (by decide +kernel)) (ZB.pi_zB (by rfl) T.f_zip (pa_cons (pv 1) (pa_cons (pe_ix ix_seq (pv 0) pe_int (fun _ _ => rfl)) pa_nil))) (blkOk_by (by first | decide +kernel | kernel_rfl)) (fun _ _ _ _ _ => (pg_tup rfl (pgs_cons (pg_name (i := 4) nd rfl (by first | exact Or.inl rfl | exact Or.inr rfl)) (pgs_cons (pg_name (i := 5) nd rfl (by first | exact Or.inl rfl | exact Or.inr rfl)) pgs_nil)))) (fun _ _ _ _ _ => pts_nil) (fun _ _ _ _ _ => (pe_tup (pa_cons (pe_ix ix_seq (pv 5) pe_int (fun _ _ => rfl)) (pa_cons (pe_ix ix_seq (pv 5) pe_int (fun _ _ => rfl)) (pa_cons (pv 4) (pa_cons (pe_ix ix_seq (pv 5) pe_int (fun _ _ => rfl)) pa_nil)))))))
    (pss_cons (ps_expr (pe_bm PySem.F.plainAttrs_list PySem.F.slot_list_extend ty_list_extend mt_extend (pv 3) (pa_cons (pe_lc (own := [("part", 4), ("way", 5)]) (g := (gTup K 2 (gCons (gName 4) (gCons (gName 5) gNil)))) (tt := tYes) rfl nd (ZB.pi_zB (by rfl) T.f_zip (pa_cons (pv 2) (pa_cons (pe_ix ix_seq (pv 0) pe_int (fun _ _ => rfl)) pa_nil))) (blkOk_by (by first | decide +kernel | kernel_rfl)) (fun _ _ _ _ _ => (pg_tup rfl (pgs_cons (pg_name (i := 4) nd rfl (by first | exact Or.inl rfl | exact Or.inr rfl)) (pgs_cons (pg_name (i := 5) nd rfl (by first | exact Or.inl rfl | exact Or.inr rfl)) pgs_nil)))) (fun _ _ _ _ _ => pts_nil) (fun _ _ _ _ _ => (pe_tup (pa_cons (pe_ix ix_seq (pv 5) pe_int (fun _ _ => rfl)) (pa_cons (pe_ix ix_seq (pv 5) pe_int (fun _ _ => rfl)) (pa_cons (pv 4) (pa_cons (pe_ix ix_seq (pv 5) pe_int (fun _ _ => rfl)) pa_nil))))))) pa_nil)))
    (pss_one (ps_ret (pe_tup (pa_cons (pe_ix ix_seq (pv 0) pe_int (fun _ _ => rfl)) (pa_cons (pe_tupleOf rfl T.f_tuple (pv 3)) pa_nil)))))))
/-! ### open_net -/
abbrev st_open_net : Stmt := top 21
abbrev N_open_net : List Str := ["net", "rooms", "way"]
theorem sc_open_net : FnScope N_open_net ["net"] (defScope st_open_net) := ⟨rfl, rfl, rfl, by decide +kernel, rfl, by decide +kernel, by decide +kernel⟩
abbrev t_open_net_1 (K : PySem.W.Frag) (s_look_at_lanes : DSp) (s_parted_ways : DSp) (W : WX) : TS :=
    (tRet (tCall (upSp K s_parted_ways) [] C8.E0 (tCons (tVar 0) (tCons (tVar 1) (tCons (tVar 1) tNil)))))
abbrev t_open_net_2 (K : PySem.W.Frag) (s_look_at_lanes : DSp) (s_parted_ways : DSp) (W : WX) : TS :=
    (tSeq (tAsg (tLc (iSeq K (tOp (rIx K) (tVar 0) (tC (.int 1)))) (gName 2) tYes (tOp (rIx K) (tVar 2) (tC (.int 2))) [2]) (gName 1)) (t_open_net_1 K s_look_at_lanes s_parted_ways W))
abbrev t_open_net (K : PySem.W.Frag) (s_look_at_lanes : DSp) (s_parted_ways : DSp) (W : WX) : TS :=
    (tSeq (tDrop (tCallS (upSp K s_look_at_lanes) (WE W) (tCons (tVar 0) tNil))) (t_open_net_2 K s_look_at_lanes s_parted_ways W))
theorem tm_open_net {k : Nat} {f : Addr} {cdv : Value} {A : Around} {outer : List Env} {s : Shared} {H : Hp} {E : XK} {s_look_at_lanes : DSp} {s_parted_ways : DSp} (T : Txt K mg) {k_look_at_lanes : Nat} (c_look_at_lanes : CalX P w K mg base k_look_at_lanes "look_at_lanes" (upSp K s_look_at_lanes)) (hk_look_at_lanes : k_look_at_lanes ≤ k) {k_parted_ways : Nat} (c_parted_ways : C8.Cal P w K mg base k_parted_ways "parted_ways" (upSp K s_parted_ways) []) (hk_parted_ways : k_parted_ways ≤ k) (hr : Room k (A.deeper (envOfC "open_net" (defScope st_open_net) s.heap.objs.size f cdv))) :
    PSs (cxOf (L2.CX P w) P w K mg base N_open_net "open_net" (defScope st_open_net) f cdv A outer s H E) (defBody st_open_net) (t_open_net K s_look_at_lanes s_parted_ways fun c d _ H => E c d H) := by
  have nd := sc_open_net.nd
  have hu := hu64 hr
  have tk : Takes (cxOf (L2.CX P w) P w K mg base N_open_net "open_net" (defScope st_open_net) f cdv A outer s H E) (fun c d _ H => E c d H) := takes_of rfl rfl rfl rfl
  exact (pss_cons (ps_expr (pe_cx c_look_at_lanes hr hk_look_at_lanes rfl tk (pa_cons (pv 0) pa_nil)))
    (pss_cons (ps_setLc (i := 1) (own := [("way", 2)]) (g := (gName 2)) (tt := tYes) (by rfl) nd rfl rfl (sw_true rfl rfl rfl (by decide +kernel)) (pi_seqX (pe_ix ix_seq (pv 0) pe_int (fun _ _ => rfl))) (blkOk_by (by first | decide +kernel | kernel_rfl)) (fun _ _ _ _ _ => (pg_name (i := 2) nd rfl (by first | exact Or.inl rfl | exact Or.inr rfl))) (fun _ _ _ _ _ => pts_nil) (fun _ _ _ _ _ => (pe_ix ix_seq (pv 2) pe_int (fun _ _ => rfl))))
    (pss_one (ps_ret (C8.pe_c c_parted_ways hr hk_parted_ways rfl (pa_cons (pv 0) (pa_cons (pv 1) (pa_cons (pv 1) pa_nil))))))))
/-! ### laned_net -/
abbrev st_laned_net : Stmt := top 22
abbrev N_laned_net : List Str := ["net", "forth", "part", "way"]
theorem sc_laned_net : FnScope N_laned_net ["net", "forth"] (defScope st_laned_net) := ⟨rfl, rfl, rfl, by decide +kernel, rfl, by decide +kernel, by decide +kernel⟩
abbrev t_laned_net_1 (K : PySem.W.Frag) (s_look_at_lanes : DSp) (s_is_forth : DSp) (s_parted_ways : DSp) (W : WX) : TS :=
    (tRet (tCall (upSp K s_parted_ways) [] C8.E0 (tCons (tVar 0) (tCons (tVar 1) (tCons (tLc (ZB.iZB K (tCons (tVar 1) (tCons (tOp (rIx K) (tVar 0) (tC (.int 1))) tNil))) (gTup K 2 (gCons (gName 2) (gCons (gName 3) gNil))) tYes (tOp rISub (tOp (rIx K) (tVar 3) (tC (.int 2))) (tVar 2)) [2, 3]) tNil)))))
abbrev t_laned_net_2 (K : PySem.W.Frag) (s_look_at_lanes : DSp) (s_is_forth : DSp) (s_parted_ways : DSp) (W : WX) : TS :=
    (tSeq (tIfS (tNot (tTru K (tCall (upSp K s_is_forth) [] C8.E0 (tCons (tVar 0) (tCons (tVar 1) tNil))))) (tRaiseC W (He.ga K "TooMuch")) tNext) (t_laned_net_1 K s_look_at_lanes s_is_forth s_parted_ways W))
abbrev t_laned_net (K : PySem.W.Frag) (s_look_at_lanes : DSp) (s_is_forth : DSp) (s_parted_ways : DSp) (W : WX) : TS :=
    (tSeq (tDrop (tCallS (upSp K s_look_at_lanes) (WE W) (tCons (tVar 0) tNil))) (t_laned_net_2 K s_look_at_lanes s_is_forth s_parted_ways W))
theorem tm_laned_net {k : Nat} {f : Addr} {cdv : Value} {A : Around} {outer : List Env} {s : Shared} {H : Hp} {E : XK} {s_look_at_lanes : DSp} {s_is_forth : DSp} {s_parted_ways : DSp} (T : Txt K mg) {k_look_at_lanes : Nat} (c_look_at_lanes : CalX P w K mg base k_look_at_lanes "look_at_lanes" (upSp K s_look_at_lanes)) (hk_look_at_lanes : k_look_at_lanes ≤ k) {k_is_forth : Nat} (c_is_forth : C8.Cal P w K mg base k_is_forth "is_forth" (upSp K s_is_forth) []) (hk_is_forth : k_is_forth ≤ k) {k_parted_ways : Nat} (c_parted_ways : C8.Cal P w K mg base k_parted_ways "parted_ways" (upSp K s_parted_ways) []) (hk_parted_ways : k_parted_ways ≤ k) (hr : Room k (A.deeper (envOfC "laned_net" (defScope st_laned_net) s.heap.objs.size f cdv))) :
    PSs (cxOf (L2.CX P w) P w K mg base N_laned_net "laned_net" (defScope st_laned_net) f cdv A outer s H E) (defBody st_laned_net) (t_laned_net K s_look_at_lanes s_is_forth s_parted_ways fun c d _ H => E c d H) := by
  have nd := sc_laned_net.nd
  have hu := hu64 hr
  have tk : Takes (cxOf (L2.CX P w) P w K mg base N_laned_net "laned_net" (defScope st_laned_net) f cdv A outer s H E) (fun c d _ H => E c d H) := takes_of rfl rfl rfl rfl
  exact (pss_cons (ps_expr (pe_cx c_look_at_lanes hr hk_look_at_lanes rfl tk (pa_cons (pv 0) pa_nil)))
    (pss_cons (ps_if (pt_not (pt_truth (C8.pe_c c_is_forth hr hk_is_forth rfl (pa_cons (pv 0) (pa_cons (pv 1) pa_nil))) (fun _ => rfl))) (pss_one (ps_raise rfl tk (pmk_own PySem.F.excBase_ValueError (He.exc_ok T.e_TooMuch).1 T.g_TooMuch (He.exc_ok T.e_TooMuch).2.1 (raises_own (He.exc_ok T.e_TooMuch).2.2.1 (He.exc_ok T.e_TooMuch).2.2.2) rfl))) pss_nil)
    (pss_one (ps_ret (C8.pe_c c_parted_ways hr hk_parted_ways rfl (pa_cons (pv 0) (pa_cons (pv 1) (pa_cons (pe_lc (own := [("part", 2), ("way", 3)]) (g := (gTup K 2 (gCons (gName 2) (gCons (gName 3) gNil)))) (tt := tYes) rfl nd (ZB.pi_zB (by rfl) T.f_zip (pa_cons (pv 1) (pa_cons (pe_ix ix_seq (pv 0) pe_int (fun _ _ => rfl)) pa_nil))) (blkOk_by (by first | decide +kernel | kernel_rfl)) (fun _ _ _ _ _ => (pg_tup rfl (pgs_cons (pg_name (i := 2) nd rfl (by first | exact Or.inl rfl | exact Or.inr rfl)) (pgs_cons (pg_name (i := 3) nd rfl (by first | exact Or.inl rfl | exact Or.inr rfl)) pgs_nil)))) (fun _ _ _ _ _ => pts_nil) (fun _ _ _ _ _ => (pe_op op_subX (pe_ix ix_seq (pv 3) pe_int (fun _ _ => rfl)) (pv 2)))) pa_nil))))))))
/-! ### best_forth -/
abbrev st_best_forth : Stmt := top 23
abbrev N_best_forth : List Str := ["net", "last", "both", "rate", "stream", "clocks", "length", "loads", "at", "way"]
theorem sc_best_forth : FnScope N_best_forth ["net", "last"] (defScope st_best_forth) := ⟨rfl, rfl, rfl, by decide +kernel, rfl, by decide +kernel, by decide +kernel⟩
abbrev t_best_forth_1 (K : PySem.W.Frag) (s_open_net : DSp) (s_bends_of : DSp) (s_light_stream : DSp) (W : WX) : TS :=
    (tRet (tThen (tLc (iEnum K (tCons (tOp (rIx K) (tVar 0) (tC (.int 1))) tNil)) (gTup K 2 (gCons (gName 8) (gCons (gName 9) gNil))) tYes (tOp rISub (tOp (rIx K) (tVar 9) (tC (.int 2))) (tOp (rIx K) (tVar 4) (tOp (rAddX K) (tCB (rLenX K) (tCons (tOp (rIx K) (tVar 0) (tC (.int 1))) tNil)) (tVar 8)))) [8, 9]) (kTup K)))
abbrev t_best_forth_2 (K : PySem.W.Frag) (s_open_net : DSp) (s_bends_of : DSp) (s_light_stream : DSp) (W : WX) : TS :=
    (tSeq (tAsg (tCall (upSp K s_light_stream) [] C8.E0 (tCons (tVar 2) (tCons (tVar 3) tNil))) (gTup K 2 (gCons (gName 4) (gCons (gName 5) gNil)))) (t_best_forth_1 K s_open_net s_bends_of s_light_stream W))
abbrev t_best_forth_3 (K : PySem.W.Frag) (s_open_net : DSp) (s_bends_of : DSp) (s_light_stream : DSp) (W : WX) : TS :=
    (tSeq (tAsg (tCB (rSum K) (tCons (tLc (iSeq K (tCall (upSp K s_bends_of) [] C8.E0 (tCons (tVar 2) tNil))) (gTup K 2 (gCons (gName 6) (gCons (gName 7) gNil))) (tTest (tOp rILe (tVar 6) (tVar 1))) (tVar 7) [6, 7]) tNil)) (gName 3)) (t_best_forth_2 K s_open_net s_bends_of s_light_stream W))
abbrev t_best_forth (K : PySem.W.Frag) (s_open_net : DSp) (s_bends_of : DSp) (s_light_stream : DSp) (W : WX) : TS :=
    (tSeq (tAsg (tCallS (upSp K s_open_net) (WE W) (tCons (tVar 0) tNil)) (gName 2)) (t_best_forth_3 K s_open_net s_bends_of s_light_stream W))
theorem tm_best_forth {k : Nat} {f : Addr} {cdv : Value} {A : Around} {outer : List Env} {s : Shared} {H : Hp} {E : XK} {s_open_net : DSp} {s_bends_of : DSp} {s_light_stream : DSp} (T : Txt K mg) {k_open_net : Nat} (c_open_net : CalX P w K mg base k_open_net "open_net" (upSp K s_open_net)) (hk_open_net : k_open_net ≤ k) {k_bends_of : Nat} (c_bends_of : C8.Cal P w K mg base k_bends_of "bends_of" (upSp K s_bends_of) []) (hk_bends_of : k_bends_of ≤ k) {k_light_stream : Nat} (c_light_stream : C8.Cal P w K mg base k_light_stream "light_stream" (upSp K s_light_stream) []) (hk_light_stream : k_light_stream ≤ k) (hr : Room k (A.deeper (envOfC "best_forth" (defScope st_best_forth) s.heap.objs.size f cdv))) :
    PSs (cxOf (L2.CX P w) P w K mg base N_best_forth "best_forth" (defScope st_best_forth) f cdv A outer s H E) (defBody st_best_forth) (t_best_forth K s_open_net s_bends_of s_light_stream fun c d _ H => E c d H) := by
  have nd := sc_best_forth.nd
  have hu := hu64 hr
  have tk : Takes (cxOf (L2.CX P w) P w K mg base N_best_forth "best_forth" (defScope st_best_forth) f cdv A outer s H E) (fun c d _ H => E c d H) := takes_of rfl rfl rfl rfl
  exact (pss_cons (ps_set (i := 2) nd rfl (by first | exact Or.inl rfl | exact Or.inr rfl) (pe_cx c_open_net hr hk_open_net rfl tk (pa_cons (pv 0) pa_nil)))
    (pss_cons (ps_set (i := 3) nd rfl (by first | exact Or.inl rfl | exact Or.inr rfl) (pe_callB (cr_sum rfl) (by rfl) T.f_sum (by decide +kernel) (pa_cons (pe_lc (own := [("length", 6), ("loads", 7)]) (g := (gTup K 2 (gCons (gName 6) (gCons (gName 7) gNil)))) (tt := (tTest (tOp rILe (tVar 6) (tVar 1)))) rfl nd (pi_seqX (C8.pe_c c_bends_of hr hk_bends_of rfl (pa_cons (pv 2) pa_nil))) (blkOk_by (by first | decide +kernel | kernel_rfl)) (fun _ _ _ _ _ => (pg_tup rfl (pgs_cons (pg_name (i := 6) nd rfl (by first | exact Or.inl rfl | exact Or.inr rfl)) (pgs_cons (pg_name (i := 7) nd rfl (by first | exact Or.inl rfl | exact Or.inr rfl)) pgs_nil)))) (fun _ _ _ _ _ => (pts_one (pt_cmpR op_leX (pv 6) (pv 1) (nomark _)))) (fun _ _ _ _ _ => (pv 7))) pa_nil)))
    (pss_cons (ps_asg (C8.pe_c c_light_stream hr hk_light_stream rfl (pa_cons (pv 2) (pa_cons (pv 3) pa_nil))) (pg_tup rfl (pgs_cons (pg_name (i := 4) nd rfl (by first | exact Or.inl rfl | exact Or.inr rfl)) (pgs_cons (pg_name (i := 5) nd rfl (by first | exact Or.inl rfl | exact Or.inr rfl)) pgs_nil))))
    (pss_one (ps_ret (pe_tupleOf rfl T.f_tuple (pe_lc (own := [("at", 8), ("way", 9)]) (g := (gTup K 2 (gCons (gName 8) (gCons (gName 9) gNil)))) (tt := tYes) rfl nd (pi_enum (by rfl) T.f_enumerate (pa_cons (pe_ix ix_seq (pv 0) pe_int (fun _ _ => rfl)) pa_nil)) (blkOk_by (by first | decide +kernel | kernel_rfl)) (fun _ _ _ _ _ => (pg_tup rfl (pgs_cons (pg_name (i := 8) nd rfl (by first | exact Or.inl rfl | exact Or.inr rfl)) (pgs_cons (pg_name (i := 9) nd rfl (by first | exact Or.inl rfl | exact Or.inr rfl)) pgs_nil)))) (fun _ _ _ _ _ => pts_nil) (fun _ _ _ _ _ => (pe_op op_subX (pe_ix ix_seq (pv 9) pe_int (fun _ _ => rfl)) (pe_ix ix_seq (pv 4) (pe_op op_addX (pe_callB call_lenX (by rfl) T.f_len (by decide +kernel) (pa_cons (pe_ix ix_seq (pv 0) pe_int (fun _ _ => rfl)) pa_nil)) (pv 8)) (fun _ _ => rfl)))))))))))
/-! ### forth_right -/
abbrev st_forth_right : Stmt := top 24
abbrev N_forth_right : List Str := ["net", "last", "forth", "both"]
theorem sc_forth_right : FnScope N_forth_right ["net", "last", "forth"] (defScope st_forth_right) := ⟨rfl, rfl, rfl, by decide +kernel, rfl, by decide +kernel, by decide +kernel⟩
abbrev t_forth_right_1 (K : PySem.W.Frag) (s_open_net : DSp) (s_is_forth : DSp) (s_most_by : DSp) (s_laned_net : DSp) (W : WX) : TS :=
    (tRet (tOp (rEqX K) (tCall (upSp K s_most_by) [] C8.E0 (tCons (tCall (upSp K s_laned_net) [] C8.E0 (tCons (tVar 0) (tCons (tVar 2) tNil))) (tCons (tVar 1) tNil))) (tCall (upSp K s_most_by) [] C8.E0 (tCons (tVar 3) (tCons (tVar 1) tNil)))))
abbrev t_forth_right_2 (K : PySem.W.Frag) (s_open_net : DSp) (s_is_forth : DSp) (s_most_by : DSp) (s_laned_net : DSp) (W : WX) : TS :=
    (tSeq (tIfS (tNot (tTru K (tCall (upSp K s_is_forth) [] C8.E0 (tCons (tVar 0) (tCons (tVar 2) tNil))))) (tRet (tC (.bl false))) tNext) (t_forth_right_1 K s_open_net s_is_forth s_most_by s_laned_net W))
abbrev t_forth_right (K : PySem.W.Frag) (s_open_net : DSp) (s_is_forth : DSp) (s_most_by : DSp) (s_laned_net : DSp) (W : WX) : TS :=
    (tSeq (tAsg (tCallS (upSp K s_open_net) (WE W) (tCons (tVar 0) tNil)) (gName 3)) (t_forth_right_2 K s_open_net s_is_forth s_most_by s_laned_net W))
theorem tm_forth_right {k : Nat} {f : Addr} {cdv : Value} {A : Around} {outer : List Env} {s : Shared} {H : Hp} {E : XK} {s_open_net : DSp} {s_is_forth : DSp} {s_most_by : DSp} {s_laned_net : DSp} (T : Txt K mg) {k_open_net : Nat} (c_open_net : CalX P w K mg base k_open_net "open_net" (upSp K s_open_net)) (hk_open_net : k_open_net ≤ k) {k_is_forth : Nat} (c_is_forth : C8.Cal P w K mg base k_is_forth "is_forth" (upSp K s_is_forth) []) (hk_is_forth : k_is_forth ≤ k) {k_most_by : Nat} (c_most_by : C8.Cal P w K mg base k_most_by "most_by" (upSp K s_most_by) []) (hk_most_by : k_most_by ≤ k) {k_laned_net : Nat} (c_laned_net : CalX P w K mg base k_laned_net "laned_net" (upSp K s_laned_net)) (hk_laned_net : k_laned_net ≤ k) (hr : Room k (A.deeper (envOfC "forth_right" (defScope st_forth_right) s.heap.objs.size f cdv))) :
    PSs (cxOf (L2.CX P w) P w K mg base N_forth_right "forth_right" (defScope st_forth_right) f cdv A outer s H E) (defBody st_forth_right) (t_forth_right K s_open_net s_is_forth s_most_by s_laned_net fun c d _ H => E c d H) := by
  have nd := sc_forth_right.nd
  have hu := hu64 hr
  have tk : Takes (cxOf (L2.CX P w) P w K mg base N_forth_right "forth_right" (defScope st_forth_right) f cdv A outer s H E) (fun c d _ H => E c d H) := takes_of rfl rfl rfl rfl
  exact (pss_cons (ps_set (i := 3) nd rfl (by first | exact Or.inl rfl | exact Or.inr rfl) (pe_cx c_open_net hr hk_open_net rfl tk (pa_cons (pv 0) pa_nil)))
    (pss_cons (ps_if (pt_not (pt_truth (C8.pe_c c_is_forth hr hk_is_forth rfl (pa_cons (pv 0) (pa_cons (pv 2) pa_nil))) (fun _ => rfl))) (pss_one (ps_ret pe_bl)) pss_nil)
    (pss_one (ps_ret (pe_cmpR (op_eqX hu) (C8.pe_c c_most_by hr hk_most_by rfl (pa_cons (pe_cx0 c_laned_net hr hk_laned_net rfl (pa_cons (pv 0) (pa_cons (pv 2) pa_nil))) (pa_cons (pv 1) pa_nil))) (C8.pe_c c_most_by hr hk_most_by rfl (pa_cons (pv 3) (pa_cons (pv 1) pa_nil))) (nomark _))))))
/-! ### is_number -/
abbrev st_is_number : Stmt := top 31
abbrev N_is_number : List Str := ["thing"]
theorem sc_is_number : FnScope N_is_number ["thing"] (defScope st_is_number) := ⟨rfl, rfl, rfl, by decide +kernel, rfl, by decide +kernel, by decide +kernel⟩
abbrev t_is_number (K : PySem.W.Frag)  : TS :=
    (tRet (tAndT K (tCB (rIsiX K) (tCons (tVar 0) (tCons (tC (.ty "int")) tNil))) (tNotT K (tCB (rIsiX K) (tCons (tVar 0) (tCons (tC (.ty "bool")) tNil))))))
theorem tm_is_number {k : Nat} {f : Addr} {cdv : Value} {A : Around} {outer : List Env} {s : Shared} {H : Hp} {E : XK}  (T : Txt K mg)  (hr : Room k (A.deeper (envOfC "is_number" (defScope st_is_number) s.heap.objs.size f cdv))) :
    PSs (cxOf C8.CX0 P w K mg base N_is_number "is_number" (defScope st_is_number) f cdv A outer s H E).nox (defBody st_is_number) (t_is_number K ) := by
  have nd := sc_is_number.nd
  have hu := hu64 hr
  exact (pss_one (ps_ret (pe_andT (pe_callB call_isiX (by rfl) T.f_isinstance (by decide +kernel) (pa_cons (pv 0) (pa_cons (pe_bltn rfl T.f_int (by decide +kernel) rfl) pa_nil))) (pe_one (pe_notT (pe_callB call_isiX (by rfl) T.f_isinstance (by decide +kernel) (pa_cons (pv 0) (pa_cons (pe_bltn rfl T.f_bool (by decide +kernel) rfl) pa_nil))))))))
/-! ### is_within -/
abbrev st_is_within : Stmt := top 32
abbrev N_is_within : List Str := ["thing", "low", "high"]
theorem sc_is_within : FnScope N_is_within ["thing", "low", "high"] (defScope st_is_within) := ⟨rfl, rfl, rfl, by decide +kernel, rfl, by decide +kernel, by decide +kernel⟩
abbrev t_is_within (K : PySem.W.Frag) (s_is_number : DSp) : TS :=
    (tRet (tAndT K (tCall (upSp K s_is_number) [] C8.E0 (tCons (tVar 0) tNil)) (tChain rILe rILe (tVar 1) (tVar 0) (tVar 2))))
theorem tm_is_within {k : Nat} {f : Addr} {cdv : Value} {A : Around} {outer : List Env} {s : Shared} {H : Hp} {E : XK} {s_is_number : DSp} (T : Txt K mg) {k_is_number : Nat} (c_is_number : C8.Cal P w K mg base k_is_number "is_number" (upSp K s_is_number) []) (hk_is_number : k_is_number ≤ k) (hr : Room k (A.deeper (envOfC "is_within" (defScope st_is_within) s.heap.objs.size f cdv))) :
    PSs (cxOf C8.CX0 P w K mg base N_is_within "is_within" (defScope st_is_within) f cdv A outer s H E).nox (defBody st_is_within) (t_is_within K s_is_number) := by
  have nd := sc_is_within.nd
  have hu := hu64 hr
  exact (pss_one (ps_ret (pe_andT (C8.pe_c c_is_number hr hk_is_number rfl (pa_cons (pv 0) pa_nil)) (pe_one (pe_chain op_leX op_leX (pv 1) (pv 0) (pv 2))))))
/-! ### is_way -/
abbrev st_is_way : Stmt := top 33
abbrev N_is_way : List Str := ["thing", "many"]
theorem sc_is_way : FnScope N_is_way ["thing", "many"] (defScope st_is_way) := ⟨rfl, rfl, rfl, by decide +kernel, rfl, by decide +kernel, by decide +kernel⟩
abbrev t_is_way_1 (K : PySem.W.Frag) (s_is_within : DSp) : TS :=
    (tRet (tAndT K (tCall (upSp K s_is_within) [] C8.E0 (tCons (tOp (rIx K) (tVar 0) (tC (.int 2))) (tCons (tC (.int 0)) (tCons (tC (.int 1000000000)) tNil)))) (tCall (upSp K s_is_within) [] C8.E0 (tCons (tOp (rIx K) (tVar 0) (tC (.int 3))) (tCons (tC (.int 1)) (tCons (tC (.int 1000000)) tNil))))))
abbrev t_is_way_2 (K : PySem.W.Frag) (s_is_within : DSp) : TS :=
    (tSeq (tIfS (tOr (tNot (tTru K (tCall (upSp K s_is_within) [] C8.E0 (tCons (tOp (rIx K) (tVar 0) (tC (.int 0))) (tCons (tC (.int 0)) (tCons (tOp rISub (tVar 1) (tC (.int 1))) tNil)))))) (tOr (tNot (tTru K (tCall (upSp K s_is_within) [] C8.E0 (tCons (tOp (rIx K) (tVar 0) (tC (.int 1))) (tCons (tC (.int 0)) (tCons (tOp rISub (tVar 1) (tC (.int 1))) tNil)))))) (tTest (tOp (rEqX K) (tOp (rIx K) (tVar 0) (tC (.int 0))) (tOp (rIx K) (tVar 0) (tC (.int 1))))))) (tRet (tC (.bl false))) tNext) (t_is_way_1 K s_is_within))
abbrev t_is_way (K : PySem.W.Frag) (s_is_within : DSp) : TS :=
    (tSeq (tIfS (tOr (tNot (tTru K (tCB (rIsiX K) (tCons (tVar 0) (tCons (tTup (tCons (tC (.ty "list")) (tCons (tC (.ty "tuple")) tNil))) tNil))))) (tTest (tOp (rNeX K) (tCB (rLenX K) (tCons (tVar 0) tNil)) (tC (.int 4))))) (tRet (tC (.bl false))) tNext) (t_is_way_2 K s_is_within))
theorem tm_is_way {k : Nat} {f : Addr} {cdv : Value} {A : Around} {outer : List Env} {s : Shared} {H : Hp} {E : XK} {s_is_within : DSp} (T : Txt K mg) {k_is_within : Nat} (c_is_within : C8.Cal P w K mg base k_is_within "is_within" (upSp K s_is_within) []) (hk_is_within : k_is_within ≤ k) (hr : Room k (A.deeper (envOfC "is_way" (defScope st_is_way) s.heap.objs.size f cdv))) :
    PSs (cxOf C8.CX0 P w K mg base N_is_way "is_way" (defScope st_is_way) f cdv A outer s H E).nox (defBody st_is_way) (t_is_way K s_is_within) := by
  have nd := sc_is_way.nd
  have hu := hu64 hr
  exact (pss_cons (ps_if (PW.pt (pw_or (pt_not (pt_truth (pe_callB call_isiX (by rfl) T.f_isinstance (by decide +kernel) (pa_cons (pv 0) (pa_cons (pe_tup (pa_cons (pe_bltn rfl T.f_list (by decide +kernel) rfl) (pa_cons (pe_bltn rfl T.f_tuple (by decide +kernel) rfl) pa_nil))) pa_nil))) (fun _ => rfl))) (pw_or1 (pt_cmpR (op_neX hu) (pe_callB call_lenX (by rfl) T.f_len (by decide +kernel) (pa_cons (pv 0) pa_nil)) pe_int (nomark _))))) (pss_one (ps_ret pe_bl)) pss_nil)
    (pss_cons (ps_if (PW.pt (pw_or (pt_not (pt_truth (C8.pe_c c_is_within hr hk_is_within rfl (pa_cons (pe_ix ix_seq (pv 0) pe_int (fun _ _ => rfl)) (pa_cons pe_int (pa_cons (pe_op op_subX (pv 1) pe_int) pa_nil)))) (fun _ => rfl))) (pw_or (pt_not (pt_truth (C8.pe_c c_is_within hr hk_is_within rfl (pa_cons (pe_ix ix_seq (pv 0) pe_int (fun _ _ => rfl)) (pa_cons pe_int (pa_cons (pe_op op_subX (pv 1) pe_int) pa_nil)))) (fun _ => rfl))) (pw_or1 (pt_cmpR (op_eqX hu) (pe_ix ix_seq (pv 0) pe_int (fun _ _ => rfl)) (pe_ix ix_seq (pv 0) pe_int (fun _ _ => rfl)) (nomark _)))))) (pss_one (ps_ret pe_bl)) pss_nil)
    (pss_one (ps_ret (pe_andT (C8.pe_c c_is_within hr hk_is_within rfl (pa_cons (pe_ix ix_seq (pv 0) pe_int (fun _ _ => rfl)) (pa_cons pe_int (pa_cons (C8.pe_gc rfl T.c_GREATEST_ROOM) pa_nil)))) (pe_one (C8.pe_c c_is_within hr hk_is_within rfl (pa_cons (pe_ix ix_seq (pv 0) pe_int (fun _ _ => rfl)) (pa_cons pe_int (pa_cons (C8.pe_gc rfl T.c_GREATEST_HOURS) pa_nil))))))))))
/-! ### made_net -/
abbrev st_made_net : Stmt := top 34
abbrev N_made_net : List Str := ["many", "ways", "at", "thing", "way"]
theorem sc_made_net : FnScope N_made_net ["many", "ways"] (defScope st_made_net) := ⟨rfl, rfl, rfl, by decide +kernel, rfl, by decide +kernel, by decide +kernel⟩
abbrev t_made_net_1 (K : PySem.W.Frag) (s_is_within : DSp) (s_is_way : DSp) : TS :=
    (tIfS (tNot (tTru K (tCall (upSp K s_is_way) [] C8.E0 (tCons (tVar 3) (tCons (tVar 0) tNil))))) tNever tNext)
abbrev t_made_net_2 (K : PySem.W.Frag) (s_is_within : DSp) (s_is_way : DSp) : TS :=
    (tRet (tTup (tCons (tVar 0) (tCons (tThen (tLc (iSeq K (tVar 1)) (gName 4) tYes (tThen (tVar 4) (kTup K)) [4]) (kTup K)) tNil))))
abbrev t_made_net_3 (K : PySem.W.Frag) (s_is_within : DSp) (s_is_way : DSp) : TS :=
    (tSeq (tIfS (tTest (tOp rIGt (tCB (rLenX K) (tCons (tVar 1) tNil)) (tC (.int 12)))) tNever tNext) (t_made_net_2 K s_is_within s_is_way))
abbrev t_made_net_4 (K : PySem.W.Frag) (s_is_within : DSp) (s_is_way : DSp) : TS :=
    (tSeq (tFor (iEnum K (tCons (tVar 1) tNil)) (gTup K 2 (gCons (gName 2) (gCons (gName 3) gNil)))
    (t_made_net_1 K s_is_within s_is_way)) (t_made_net_3 K s_is_within s_is_way))
abbrev t_made_net (K : PySem.W.Frag) (s_is_within : DSp) (s_is_way : DSp) : TS :=
    (tSeq (tIfS (tOr (tNot (tTru K (tCall (upSp K s_is_within) [] C8.E0 (tCons (tVar 0) (tCons (tC (.int 2)) (tCons (tC (.int 6)) tNil)))))) (tNot (tTru K (tCB (rIsiX K) (tCons (tVar 1) (tCons (tTup (tCons (tC (.ty "list")) (tCons (tC (.ty "tuple")) tNil))) tNil)))))) tNever tNext) (t_made_net_4 K s_is_within s_is_way))
theorem tm_made_net {k : Nat} {f : Addr} {cdv : Value} {A : Around} {outer : List Env} {s : Shared} {H : Hp} {E : XK} {s_is_within : DSp} {s_is_way : DSp} (T : Txt K mg) {k_is_within : Nat} (c_is_within : C8.Cal P w K mg base k_is_within "is_within" (upSp K s_is_within) []) (hk_is_within : k_is_within ≤ k) {k_is_way : Nat} (c_is_way : C8.Cal P w K mg base k_is_way "is_way" (upSp K s_is_way) []) (hk_is_way : k_is_way ≤ k) (hr : Room k (A.deeper (envOfC "made_net" (defScope st_made_net) s.heap.objs.size f cdv))) :
    PSs (cxOf C8.CX0 P w K mg base N_made_net "made_net" (defScope st_made_net) f cdv A outer s H E).nox (defBody st_made_net) (t_made_net K s_is_within s_is_way) := by
  have nd := sc_made_net.nd
  have hu := hu64 hr
  exact (pss_cons (ps_if (PW.pt (pw_or (pt_not (pt_truth (C8.pe_c c_is_within hr hk_is_within rfl (pa_cons (pv 0) (pa_cons (C8.pe_gc rfl T.c_LEAST_PLACES) (pa_cons (C8.pe_gc rfl T.c_MOST_PLACES) pa_nil)))) (fun _ => rfl))) (pw_or1 (pt_not (pt_truth (pe_callB call_isiX (by rfl) T.f_isinstance (by decide +kernel) (pa_cons (pv 1) (pa_cons (pe_tup (pa_cons (pe_bltn rfl T.f_list (by decide +kernel) rfl) (pa_cons (pe_bltn rfl T.f_tuple (by decide +kernel) rfl) pa_nil))) pa_nil))) (fun _ => rfl)))))) (pss_one ps_never) pss_nil)
    (pss_cons (ps_for PassesOwn.never rfl (pi_enum (by rfl) T.f_enumerate (pa_cons (pv 1) pa_nil)) (pg_tup rfl (pgs_cons (pg_name (i := 2) nd rfl (by first | exact Or.inl rfl | exact Or.inr rfl)) (pgs_cons (pg_name (i := 3) nd rfl (by first | exact Or.inl rfl | exact Or.inr rfl)) pgs_nil)))
    (pss_one (ps_if (pt_not (pt_truth (C8.pe_c c_is_way hr hk_is_way rfl (pa_cons (pv 3) (pa_cons (pv 0) pa_nil))) (fun _ => rfl))) (pss_one ps_never) pss_nil)))
    (pss_cons (ps_if (pt_cmpR op_gtX (pe_callB call_lenX (by rfl) T.f_len (by decide +kernel) (pa_cons (pv 1) pa_nil)) (C8.pe_gc rfl T.c_MOST_WAYS) (nomark _)) (pss_one ps_never) pss_nil)
    (pss_one (ps_ret (pe_tup (pa_cons (pv 0) (pa_cons (pe_tupleOf rfl T.f_tuple (pe_lc (own := [("way", 4)]) (g := (gName 4)) (tt := tYes) rfl nd (pi_seqX (pv 1)) (blkOk_by (by first | decide +kernel | kernel_rfl)) (fun _ _ _ _ _ => (pg_name (i := 4) nd rfl (by first | exact Or.inl rfl | exact Or.inr rfl))) (fun _ _ _ _ _ => pts_nil) (fun _ _ _ _ _ => (pe_tupleOf rfl T.f_tuple (pv 4))))) pa_nil))))))))
/-! ### _law_all -/
abbrev st__law_all : Stmt := top 36
abbrev N__law_all : List Str := ["script", "many", "cells", "left", "found", "k", "at", "cell", "step", "mixed"]
theorem sc__law_all : FnScope N__law_all ["script", "many"] (defScope st__law_all) := ⟨rfl, rfl, rfl, by decide +kernel, rfl, by decide +kernel, by decide +kernel⟩
abbrev t__law_all_1 (K : PySem.W.Frag)  : TS :=
    (tAsg (tOp rIDiv (tOp (rIx K) (tVar 3) (tVar 6)) (tOp rIPow (tC (.int 10)) (tC (.int 6)))) (gSub (tVar 3) (tVar 6) rSetL))
abbrev t__law_all_2 (K : PySem.W.Frag)  : TS :=
    (tSeq (tDrop (tBM K "list" rAppend (tVar 4) (tCons (tOp rIMod (tOp (rIx K) (tVar 3) (tVar 6)) (tOp rIPow (tC (.int 10)) (tC (.int 6)))) tNil))) (t__law_all_1 K ))
abbrev t__law_all_3 (K : PySem.W.Frag)  : TS :=
    (tDrop (tBM K "list" rAppend (tVar 4) (tCons (tOp rIMod (tOp rIDiv (tOp rIMod (tOp (rMulX K) (tOp (rAddX K) (tVar 9) (tOp (rMulX K) (tC (.int 40692)) (tOp (rAddX K) (tVar 5) (tC (.int 3))))) (tC (.int 69621))) (tC (.int 2147483629))) (tC (.int 8))) (tOp rIPow (tC (.int 10)) (tC (.int 6)))) tNil)))
abbrev t__law_all_4 (K : PySem.W.Frag)  : TS :=
    (tSeq (tAsg (tOp rIMod (tOp (rMulX K) (tVar 9) (tVar 9)) (tC (.int 2147483647))) (gName 9)) (t__law_all_3 K ))
abbrev t__law_all_5 (K : PySem.W.Frag)  : TS :=
    (tSeq (tAsg (tOp rIMod (tOp (rAddX K) (tOp (rMulX K) (tOp rIMod (tOp (rIx K) (tVar 2) (tVar 6)) (tC (.int 1000000007))) (tC (.int 48271))) (tVar 8)) (tC (.int 2147483647))) (gName 9)) (t__law_all_4 K ))
abbrev t__law_all_6 (K : PySem.W.Frag)  : TS :=
    (tSeq (tAsg (tOp (rAddX K) (tOp (rAddX K) (tOp (rMulX K) (tOp (rMulX K) (tC (.int 977)) (tVar 5)) (tVar 5)) (tOp (rMulX K) (tC (.int 131)) (tVar 5))) (tC (.int 1))) (gName 8)) (t__law_all_5 K ))
abbrev t__law_all_7 (K : PySem.W.Frag)  : TS :=
    (tIfS (tAnd (tTest (tOp rIGe (tCB rAbs1 (tCons (tOp (rIx K) (tVar 2) (tVar 6)) tNil)) (tOp rIPow (tC (.int 10)) (tC (.int 18))))) (tTest (tOp rIGt (tOp (rIx K) (tVar 3) (tVar 6)) (tC (.int 0))))) (t__law_all_2 K ) (t__law_all_6 K ))
abbrev t__law_all_8 (K : PySem.W.Frag)  : TS :=
    (tSeq (tAsg (tOp rIMod (tVar 5) (tCB (rLenX K) (tCons (tVar 2) tNil))) (gName 6)) (t__law_all_7 K ))
abbrev t__law_all_9 (K : PySem.W.Frag)  : TS :=
    (tSeq (tFor (iRng1 (tCons (tVar 1) tNil)) (gName 5)
    (t__law_all_8 K )) (tRet (tVar 4)))
abbrev t__law_all_10 (K : PySem.W.Frag)  : TS :=
    (tSeq (tAsg (tLc (iSeq K (tVar 2)) (gName 7) tYes (tCB rAbs1 (tCons (tVar 7) tNil)) [7]) (gName 3)) (tSeq (tAsg (tLst tNil) (gName 4)) (t__law_all_9 K )))
abbrev t__law_all_11 (K : PySem.W.Frag)  : TS :=
    (tSeq (tIfS (tTest (tOp (rEqX K) (tVar 2) (tLst tNil))) (tAsg (tLst (tCons (tC (.int 0)) tNil)) (gName 2)) tNext) (t__law_all_10 K ))
abbrev t__law_all (K : PySem.W.Frag)  : TS :=
    (tSeq (tAsg (L2.tSl (rSlX K) (tVar 0) tNoPart (tPart (tC (.int 63)))) (gName 2)) (t__law_all_11 K ))
theorem tm__law_all {k : Nat} {f : Addr} {cdv : Value} {A : Around} {outer : List Env} {s : Shared} {H : Hp} {E : XK}  (T : Txt K mg)  (hr : Room k (A.deeper (envOfC "_law_all" (defScope st__law_all) s.heap.objs.size f cdv))) :
    PSs (cxOf C8.CX0 P w K mg base N__law_all "_law_all" (defScope st__law_all) f cdv A outer s H E).nox (defBody st__law_all) (t__law_all K ) := by
  have nd := sc__law_all.nd
  have hu := hu64 hr
  exact (pss_cons (ps_set (i := 2) nd rfl (by first | exact Or.inl rfl | exact Or.inr rfl) (pe_slice sl_X (pv 0) po_none (po_some pe_int)))
    (pss_cons (ps_if (pt_cmpR (op_eqX hu) (pv 2) (pe_lst pa_nil) (nomark _)) (pss_one (ps_set (i := 2) nd rfl (by first | exact Or.inl rfl | exact Or.inr rfl) (pe_lst (pa_cons pe_int pa_nil)))) pss_nil)
    (pss_cons (ps_setLc (i := 3) (own := [("cell", 7)]) (g := (gName 7)) (tt := tYes) (by rfl) nd rfl rfl (sw_true rfl rfl rfl (by decide +kernel)) (pi_seqX (pv 2)) (blkOk_by (by first | decide +kernel | kernel_rfl)) (fun _ _ _ _ _ => (pg_name (i := 7) nd rfl (by first | exact Or.inl rfl | exact Or.inr rfl))) (fun _ _ _ _ _ => pts_nil) (fun _ _ _ _ _ => (pe_callB call_absX (by rfl) T.f_abs (by decide +kernel) (pa_cons (pv 7) pa_nil))))
    (pss_cons (ps_set (i := 4) nd rfl (by first | exact Or.inl rfl | exact Or.inr rfl) (pe_lst pa_nil))
    (pss_cons (ps_for PassesOwn.never rfl (pi_range1 (by rfl) T.f_range (pa_cons (pv 1) pa_nil)) (pg_name (i := 5) nd rfl (by first | exact Or.inl rfl | exact Or.inr rfl))
    (pss_cons (ps_set (i := 6) nd rfl (by first | exact Or.inl rfl | exact Or.inr rfl) (pe_op op_modX (pv 5) (pe_callB call_lenX (by rfl) T.f_len (by decide +kernel) (pa_cons (pv 2) pa_nil))))
    (pss_one (ps_if (PW.pt (pw_and (pt_cmpR op_geX (pe_callB call_absX (by rfl) T.f_abs (by decide +kernel) (pa_cons (pe_ix ix_seq (pv 2) (pv 6) (fun _ _ => rfl)) pa_nil)) (pe_op op_powX pe_int pe_int) (nomark _)) (pw_and1 (pt_cmpR op_gtX (pe_ix ix_seq (pv 3) (pv 6) (fun _ _ => rfl)) pe_int (nomark _))))) (pss_cons (ps_expr (pe_bm PySem.F.plainAttrs_list PySem.F.slot_list_append PySem.F.type_list_append mt_append (pv 4) (pa_cons (pe_op op_modX (pe_ix ix_seq (pv 3) (pv 6) (fun _ _ => rfl)) (pe_op op_powX pe_int pe_int)) pa_nil)))
    (pss_one (ps_asg (pe_op op_divX (pe_ix ix_seq (pv 3) (pv 6) (fun _ _ => rfl)) (pe_op op_powX pe_int pe_int)) (pg_sub (pv 3) (pv 6) set_list)))) (pss_cons (ps_set (i := 8) nd rfl (by first | exact Or.inl rfl | exact Or.inr rfl) (pe_op op_addX (pe_op op_addX (pe_op op_mulX' (pe_op op_mulX' pe_int (pv 5)) (pv 5)) (pe_op op_mulX' pe_int (pv 5))) pe_int))
    (pss_cons (ps_set (i := 9) nd rfl (by first | exact Or.inl rfl | exact Or.inr rfl) (pe_op op_modX (pe_op op_addX (pe_op op_mulX' (pe_op op_modX (pe_ix ix_seq (pv 2) (pv 6) (fun _ _ => rfl)) pe_int) pe_int) (pv 8)) pe_int))
    (pss_cons (ps_set (i := 9) nd rfl (by first | exact Or.inl rfl | exact Or.inr rfl) (pe_op op_modX (pe_op op_mulX' (pv 9) (pv 9)) pe_int))
    (pss_one (ps_expr (pe_bm PySem.F.plainAttrs_list PySem.F.slot_list_append PySem.F.type_list_append mt_append (pv 4) (pa_cons (pe_op op_modX (pe_op op_divX (pe_op op_modX (pe_op op_mulX' (pe_op op_addX (pv 9) (pe_op op_mulX' pe_int (pe_op op_addX (pv 5) pe_int))) pe_int) pe_int) pe_int) (pe_op op_powX pe_int pe_int)) pa_nil)))))))))))
    (pss_one (ps_ret (pv 4))))))))
/-! ### _law_draw -/
abbrev st__law_draw : Stmt := top 37
abbrev N__law_draw : List Str := ["draws", "at", "many"]
theorem sc__law_draw : FnScope N__law_draw ["draws", "at", "many"] (defScope st__law_draw) := ⟨rfl, rfl, rfl, by decide +kernel, rfl, by decide +kernel, by decide +kernel⟩
abbrev t__law_draw (K : PySem.W.Frag)  : TS :=
    (tRet (tOp rIMod (tOp (rIx K) (tVar 0) (tOp rIMod (tVar 1) (tCB (rLenX K) (tCons (tVar 0) tNil)))) (tVar 2)))
theorem tm__law_draw {k : Nat} {f : Addr} {cdv : Value} {A : Around} {outer : List Env} {s : Shared} {H : Hp} {E : XK}  (T : Txt K mg)  (hr : Room k (A.deeper (envOfC "_law_draw" (defScope st__law_draw) s.heap.objs.size f cdv))) :
    PSs (cxOf C8.CX0 P w K mg base N__law_draw "_law_draw" (defScope st__law_draw) f cdv A outer s H E).nox (defBody st__law_draw) (t__law_draw K ) := by
  have nd := sc__law_draw.nd
  have hu := hu64 hr
  exact (pss_one (ps_ret (pe_op op_modX (pe_ix ix_seq (pv 0) (pe_op op_modX (pv 1) (pe_callB call_lenX (by rfl) T.f_len (by decide +kernel) (pa_cons (pv 0) pa_nil))) (fun _ _ => rfl)) (pv 2))))
/-! ### _law_wide -/
abbrev st__law_wide : Stmt := top 38
abbrev N__law_wide : List Str := ["draws", "at", "many", "far"]
theorem sc__law_wide : FnScope N__law_wide ["draws", "at", "many"] (defScope st__law_wide) := ⟨rfl, rfl, rfl, by decide +kernel, rfl, by decide +kernel, by decide +kernel⟩
abbrev t__law_wide_1 (K : PySem.W.Frag)  : TS :=
    (tRet (tOp rIMod (tOp (rAddX K) (tVar 3) (tOp (rIx K) (tVar 0) (tOp rIMod (tOp (rAddX K) (tVar 1) (tC (.int 1))) (tCB (rLenX K) (tCons (tVar 0) tNil))))) (tVar 2)))
abbrev t__law_wide (K : PySem.W.Frag)  : TS :=
    (tSeq (tAsg (tOp (rMulX K) (tOp (rIx K) (tVar 0) (tOp rIMod (tVar 1) (tCB (rLenX K) (tCons (tVar 0) tNil)))) (tOp rIPow (tC (.int 10)) (tC (.int 6)))) (gName 3)) (t__law_wide_1 K ))
theorem tm__law_wide {k : Nat} {f : Addr} {cdv : Value} {A : Around} {outer : List Env} {s : Shared} {H : Hp} {E : XK}  (T : Txt K mg)  (hr : Room k (A.deeper (envOfC "_law_wide" (defScope st__law_wide) s.heap.objs.size f cdv))) :
    PSs (cxOf C8.CX0 P w K mg base N__law_wide "_law_wide" (defScope st__law_wide) f cdv A outer s H E).nox (defBody st__law_wide) (t__law_wide K ) := by
  have nd := sc__law_wide.nd
  have hu := hu64 hr
  exact (pss_cons (ps_set (i := 3) nd rfl (by first | exact Or.inl rfl | exact Or.inr rfl) (pe_op op_mulX' (pe_ix ix_seq (pv 0) (pe_op op_modX (pv 1) (pe_callB call_lenX (by rfl) T.f_len (by decide +kernel) (pa_cons (pv 0) pa_nil))) (fun _ _ => rfl)) (pe_op op_powX pe_int pe_int)))
    (pss_one (ps_ret (pe_op op_modX (pe_op op_addX (pv 3) (pe_ix ix_seq (pv 0) (pe_op op_modX (pe_op op_addX (pv 1) pe_int) (pe_callB call_lenX (by rfl) T.f_len (by decide +kernel) (pa_cons (pv 0) pa_nil))) (fun _ _ => rfl))) (pv 2)))))
/-! ### _law_net -/
abbrev st__law_net : Stmt := top 39
abbrev N__law_net : List Str := ["draws", "at", "places", "most", "many", "wide", "ways", "k", "spot", "one", "other", "room", "hours"]
theorem sc__law_net : FnScope N__law_net ["draws", "at", "places", "most"] (defScope st__law_net) := ⟨rfl, rfl, rfl, by decide +kernel, rfl, by decide +kernel, by decide +kernel⟩
abbrev t__law_net_1 (K : PySem.W.Frag) (s__law_draw : DSp) (s__law_wide : DSp) (s_made_net : DSp) : TS :=
    (tPar 9 10 (tCons (tCB rMin2' (tCons (tVar 9) (tCons (tVar 10) tNil))) (tCons (tCB rMax2' (tCons (tVar 9) (tCons (tVar 10) tNil))) tNil)))
abbrev t__law_net_2 (K : PySem.W.Frag) (s__law_draw : DSp) (s__law_wide : DSp) (s_made_net : DSp) : TS :=
    (tAsg (tOp (rIx K) (tLst (tCons (tVar 12) (tCons (tOp rISub (tOp rIPow (tC (.int 10)) (tC (.int 6))) (tVar 12)) (tCons (tOp (rAddX K) (tC (.int 1)) (tCall (upSp K s__law_draw) [] C8.E0 (tCons (tVar 0) (tCons (tOp (rAddX K) (tVar 8) (tC (.int 8))) (tCons (tOp rIPow (tC (.int 10)) (tC (.int 6))) tNil))))) tNil)))) (tCall (upSp K s__law_draw) [] C8.E0 (tCons (tVar 0) (tCons (tOp (rAddX K) (tVar 8) (tC (.int 9))) (tCons (tC (.int 3)) tNil))))) (gName 12))
abbrev t__law_net_3 (K : PySem.W.Frag) (s__law_draw : DSp) (s__law_wide : DSp) (s_made_net : DSp) : TS :=
    (tSeq (tAsg (tOp (rIx K) (tLst (tCons (tVar 11) (tCons (tOp rISub (tOp rIPow (tC (.int 10)) (tC (.int 9))) (tVar 11)) (tCons (tCall (upSp K s__law_wide) [] C8.E0 (tCons (tVar 0) (tCons (tOp (rAddX K) (tVar 8) (tC (.int 5))) (tCons (tOp (rAddX K) (tOp rIPow (tC (.int 10)) (tC (.int 9))) (tC (.int 1))) tNil)))) tNil)))) (tCall (upSp K s__law_draw) [] C8.E0 (tCons (tVar 0) (tCons (tOp (rAddX K) (tVar 8) (tC (.int 7))) (tCons (tC (.int 3)) tNil))))) (gName 11)) (t__law_net_2 K s__law_draw s__law_wide s_made_net))
abbrev t__law_net_4 (K : PySem.W.Frag) (s__law_draw : DSp) (s__law_wide : DSp) (s_made_net : DSp) : TS :=
    (tDrop (tBM K "list" rAppend (tVar 6) (tCons (tTup (tCons (tVar 9) (tCons (tVar 10) (tCons (tVar 11) (tCons (tVar 12) tNil))))) tNil)))
abbrev t__law_net_5 (K : PySem.W.Frag) (s__law_draw : DSp) (s__law_wide : DSp) (s_made_net : DSp) : TS :=
    (tSeq (tIfS (tTru K (tVar 5)) (t__law_net_3 K s__law_draw s__law_wide s_made_net) tNext) (t__law_net_4 K s__law_draw s__law_wide s_made_net))
abbrev t__law_net_6 (K : PySem.W.Frag) (s__law_draw : DSp) (s__law_wide : DSp) (s_made_net : DSp) : TS :=
    (tSeq (tAsg (tOp (rAddX K) (tC (.int 1)) (tCall (upSp K s__law_draw) [] C8.E0 (tCons (tVar 0) (tCons (tOp (rAddX K) (tVar 8) (tC (.int 4))) (tCons (tC (.int 4)) tNil))))) (gName 12)) (t__law_net_5 K s__law_draw s__law_wide s_made_net))
abbrev t__law_net_7 (K : PySem.W.Frag) (s__law_draw : DSp) (s__law_wide : DSp) (s_made_net : DSp) : TS :=
    (tSeq (tAsg (tOp (rIx K) (tLst (tCons (tC (.int 0)) (tCons (tC (.int 1)) (tCons (tC (.int 2)) (tCons (tC (.int 3)) (tCons (tC (.int 4)) (tCons (tC (.int 1)) (tCons (tC (.int 2)) (tCons (tC (.int 7)) tNil))))))))) (tCall (upSp K s__law_draw) [] C8.E0 (tCons (tVar 0) (tCons (tOp (rAddX K) (tVar 8) (tC (.int 3))) (tCons (tC (.int 8)) tNil))))) (gName 11)) (t__law_net_6 K s__law_draw s__law_wide s_made_net))
abbrev t__law_net_8 (K : PySem.W.Frag) (s__law_draw : DSp) (s__law_wide : DSp) (s_made_net : DSp) : TS :=
    (tSeq (tIfS (tTest (tOp (rEqX K) (tCall (upSp K s__law_draw) [] C8.E0 (tCons (tVar 0) (tCons (tOp (rAddX K) (tVar 8) (tC (.int 2))) (tCons (tC (.int 2)) tNil)))) (tC (.int 0)))) (t__law_net_1 K s__law_draw s__law_wide s_made_net) tNext) (t__law_net_7 K s__law_draw s__law_wide s_made_net))
abbrev t__law_net_9 (K : PySem.W.Frag) (s__law_draw : DSp) (s__law_wide : DSp) (s_made_net : DSp) : TS :=
    (tSeq (tAsg (tOp rIMod (tOp (rAddX K) (tOp (rAddX K) (tVar 9) (tC (.int 1))) (tCall (upSp K s__law_draw) [] C8.E0 (tCons (tVar 0) (tCons (tOp (rAddX K) (tVar 8) (tC (.int 1))) (tCons (tOp rISub (tVar 4) (tC (.int 1))) tNil))))) (tVar 4)) (gName 10)) (t__law_net_8 K s__law_draw s__law_wide s_made_net))
abbrev t__law_net_10 (K : PySem.W.Frag) (s__law_draw : DSp) (s__law_wide : DSp) (s_made_net : DSp) : TS :=
    (tSeq (tAsg (tCall (upSp K s__law_draw) [] C8.E0 (tCons (tVar 0) (tCons (tVar 8) (tCons (tVar 4) tNil)))) (gName 9)) (t__law_net_9 K s__law_draw s__law_wide s_made_net))
abbrev t__law_net_11 (K : PySem.W.Frag) (s__law_draw : DSp) (s__law_wide : DSp) (s_made_net : DSp) : TS :=
    (tSeq (tAsg (tOp (rAddX K) (tOp (rAddX K) (tVar 1) (tC (.int 10))) (tOp (rMulX K) (tC (.int 10)) (tVar 7))) (gName 8)) (t__law_net_10 K s__law_draw s__law_wide s_made_net))
abbrev t__law_net_12 (K : PySem.W.Frag) (s__law_draw : DSp) (s__law_wide : DSp) (s_made_net : DSp) : TS :=
    (tRet (tCall (upSp K s_made_net) [] C8.E0 (tCons (tVar 4) (tCons (tVar 6) tNil))))
abbrev t__law_net_13 (K : PySem.W.Frag) (s__law_draw : DSp) (s__law_wide : DSp) (s_made_net : DSp) : TS :=
    (tSeq (tFor (iRng1 (tCons (tCall (upSp K s__law_draw) [] C8.E0 (tCons (tVar 0) (tCons (tOp (rAddX K) (tVar 1) (tC (.int 2))) (tCons (tOp (rAddX K) (tVar 3) (tC (.int 1))) tNil)))) tNil)) (gName 7)
    (t__law_net_11 K s__law_draw s__law_wide s_made_net)) (t__law_net_12 K s__law_draw s__law_wide s_made_net))
abbrev t__law_net_14 (K : PySem.W.Frag) (s__law_draw : DSp) (s__law_wide : DSp) (s_made_net : DSp) : TS :=
    (tSeq (tAsg (tOp (rEqX K) (tCall (upSp K s__law_draw) [] C8.E0 (tCons (tVar 0) (tCons (tOp (rAddX K) (tVar 1) (tC (.int 1))) (tCons (tC (.int 4)) tNil)))) (tC (.int 0))) (gName 5)) (tSeq (tAsg (tLst tNil) (gName 6)) (t__law_net_13 K s__law_draw s__law_wide s_made_net)))
abbrev t__law_net (K : PySem.W.Frag) (s__law_draw : DSp) (s__law_wide : DSp) (s_made_net : DSp) : TS :=
    (tSeq (tAsg (tOp (rAddX K) (tC (.int 2)) (tCall (upSp K s__law_draw) [] C8.E0 (tCons (tVar 0) (tCons (tVar 1) (tCons (tOp rISub (tVar 2) (tC (.int 1))) tNil))))) (gName 4)) (t__law_net_14 K s__law_draw s__law_wide s_made_net))
theorem tm__law_net {k : Nat} {f : Addr} {cdv : Value} {A : Around} {outer : List Env} {s : Shared} {H : Hp} {E : XK} {s__law_draw : DSp} {s__law_wide : DSp} {s_made_net : DSp} (T : Txt K mg) {k__law_draw : Nat} (c__law_draw : C8.Cal P w K mg base k__law_draw "_law_draw" (upSp K s__law_draw) []) (hk__law_draw : k__law_draw ≤ k) {k__law_wide : Nat} (c__law_wide : C8.Cal P w K mg base k__law_wide "_law_wide" (upSp K s__law_wide) []) (hk__law_wide : k__law_wide ≤ k) {k_made_net : Nat} (c_made_net : C8.Cal P w K mg base k_made_net "made_net" (upSp K s_made_net) []) (hk_made_net : k_made_net ≤ k) (hr : Room k (A.deeper (envOfC "_law_net" (defScope st__law_net) s.heap.objs.size f cdv))) :
    PSs (cxOf C8.CX0 P w K mg base N__law_net "_law_net" (defScope st__law_net) f cdv A outer s H E).nox (defBody st__law_net) (t__law_net K s__law_draw s__law_wide s_made_net) := by
  have nd := sc__law_net.nd
  have hu := hu64 hr
  exact (pss_cons (ps_set (i := 4) nd rfl (by first | exact Or.inl rfl | exact Or.inr rfl) (pe_op op_addX pe_int (C8.pe_c c__law_draw hr hk__law_draw rfl (pa_cons (pv 0) (pa_cons (pv 1) (pa_cons (pe_op op_subX (pv 2) pe_int) pa_nil))))))
    (pss_cons (ps_set (i := 5) nd rfl (by first | exact Or.inl rfl | exact Or.inr rfl) (pe_cmpR (op_eqX hu) (C8.pe_c c__law_draw hr hk__law_draw rfl (pa_cons (pv 0) (pa_cons (pe_op op_addX (pv 1) pe_int) (pa_cons pe_int pa_nil)))) pe_int (nomark _)))
    (pss_cons (ps_set (i := 6) nd rfl (by first | exact Or.inl rfl | exact Or.inr rfl) (pe_lst pa_nil))
    (pss_cons (ps_for PassesOwn.never rfl (pi_range1 (by rfl) T.f_range (pa_cons (C8.pe_c c__law_draw hr hk__law_draw rfl (pa_cons (pv 0) (pa_cons (pe_op op_addX (pv 1) pe_int) (pa_cons (pe_op op_addX (pv 3) pe_int) pa_nil)))) pa_nil)) (pg_name (i := 7) nd rfl (by first | exact Or.inl rfl | exact Or.inr rfl))
    (pss_cons (ps_set (i := 8) nd rfl (by first | exact Or.inl rfl | exact Or.inr rfl) (pe_op op_addX (pe_op op_addX (pv 1) pe_int) (pe_op op_mulX' pe_int (pv 7))))
    (pss_cons (ps_set (i := 9) nd rfl (by first | exact Or.inl rfl | exact Or.inr rfl) (C8.pe_c c__law_draw hr hk__law_draw rfl (pa_cons (pv 0) (pa_cons (pv 8) (pa_cons (pv 4) pa_nil)))))
    (pss_cons (ps_set (i := 10) nd rfl (by first | exact Or.inl rfl | exact Or.inr rfl) (pe_op op_modX (pe_op op_addX (pe_op op_addX (pv 9) pe_int) (C8.pe_c c__law_draw hr hk__law_draw rfl (pa_cons (pv 0) (pa_cons (pe_op op_addX (pv 8) pe_int) (pa_cons (pe_op op_subX (pv 4) pe_int) pa_nil))))) (pv 4)))
    (pss_cons (ps_if (pt_cmpR (op_eqX hu) (C8.pe_c c__law_draw hr hk__law_draw rfl (pa_cons (pv 0) (pa_cons (pe_op op_addX (pv 8) pe_int) (pa_cons pe_int pa_nil)))) pe_int (nomark _)) (pss_one (ps_par (by rfl) nd (i := 9) (j := 10) rfl rfl (by decide) rfl rfl (pa_cons (pe_callB (call_minX rfl) (by rfl) T.f_min (by decide +kernel) (pa_cons (pv 9) (pa_cons (pv 10) pa_nil))) (pa_cons (pe_callB (call_maxX rfl) (by rfl) T.f_max (by decide +kernel) (pa_cons (pv 9) (pa_cons (pv 10) pa_nil))) pa_nil)) (by rfl))) pss_nil)
    (pss_cons (ps_set (i := 11) nd rfl (by first | exact Or.inl rfl | exact Or.inr rfl) (pe_ix ix_seq (pe_lst (pa_cons pe_int (pa_cons pe_int (pa_cons pe_int (pa_cons pe_int (pa_cons pe_int (pa_cons pe_int (pa_cons pe_int (pa_cons pe_int pa_nil))))))))) (C8.pe_c c__law_draw hr hk__law_draw rfl (pa_cons (pv 0) (pa_cons (pe_op op_addX (pv 8) pe_int) (pa_cons pe_int pa_nil)))) (fun _ _ => rfl)))
    (pss_cons (ps_set (i := 12) nd rfl (by first | exact Or.inl rfl | exact Or.inr rfl) (pe_op op_addX pe_int (C8.pe_c c__law_draw hr hk__law_draw rfl (pa_cons (pv 0) (pa_cons (pe_op op_addX (pv 8) pe_int) (pa_cons pe_int pa_nil))))))
    (pss_cons (ps_if (pt_truth (pv 5) (fun _ => rfl)) (pss_cons (ps_set (i := 11) nd rfl (by first | exact Or.inl rfl | exact Or.inr rfl) (pe_ix ix_seq (pe_lst (pa_cons (pv 11) (pa_cons (pe_op op_subX (pe_op op_powX pe_int pe_int) (pv 11)) (pa_cons (C8.pe_c c__law_wide hr hk__law_wide rfl (pa_cons (pv 0) (pa_cons (pe_op op_addX (pv 8) pe_int) (pa_cons (pe_op op_addX (pe_op op_powX pe_int pe_int) pe_int) pa_nil)))) pa_nil)))) (C8.pe_c c__law_draw hr hk__law_draw rfl (pa_cons (pv 0) (pa_cons (pe_op op_addX (pv 8) pe_int) (pa_cons pe_int pa_nil)))) (fun _ _ => rfl)))
    (pss_one (ps_set (i := 12) nd rfl (by first | exact Or.inl rfl | exact Or.inr rfl) (pe_ix ix_seq (pe_lst (pa_cons (pv 12) (pa_cons (pe_op op_subX (pe_op op_powX pe_int pe_int) (pv 12)) (pa_cons (pe_op op_addX pe_int (C8.pe_c c__law_draw hr hk__law_draw rfl (pa_cons (pv 0) (pa_cons (pe_op op_addX (pv 8) pe_int) (pa_cons (pe_op op_powX pe_int pe_int) pa_nil))))) pa_nil)))) (C8.pe_c c__law_draw hr hk__law_draw rfl (pa_cons (pv 0) (pa_cons (pe_op op_addX (pv 8) pe_int) (pa_cons pe_int pa_nil)))) (fun _ _ => rfl))))) pss_nil)
    (pss_one (ps_expr (pe_bm PySem.F.plainAttrs_list PySem.F.slot_list_append PySem.F.type_list_append mt_append (pv 6) (pa_cons (pe_tup (pa_cons (pv 9) (pa_cons (pv 10) (pa_cons (pv 11) (pa_cons (pv 12) pa_nil))))) pa_nil))))))))))))
    (pss_one (ps_ret (C8.pe_c c_made_net hr hk_made_net rfl (pa_cons (pv 4) (pa_cons (pv 6) pa_nil)))))))))
/-! ### _law_due -/
abbrev st__law_due : Stmt := top 40
abbrev N__law_due : List Str := ["net", "forth", "back", "ways", "k", "one", "other", "room", "hours"]
theorem sc__law_due : FnScope N__law_due ["net", "forth", "back"] (defScope st__law_due) := ⟨rfl, rfl, rfl, by decide +kernel, rfl, by decide +kernel, by decide +kernel⟩
abbrev t__law_due_1 (K : PySem.W.Frag)  : TS :=
    (tDrop (tBM K "list" rAppend (tVar 3) (tCons (tTup (tCons (tVar 5) (tCons (tVar 6) (tCons (tOp (rIx K) (tVar 1) (tVar 4)) (tCons (tVar 8) tNil))))) tNil)))
abbrev t__law_due_2 (K : PySem.W.Frag)  : TS :=
    (tSeq (tAsg (tOp (rIx K) (tOp (rIx K) (tVar 0) (tC (.int 1))) (tVar 4)) (gTup K 4 (gCons (gName 5) (gCons (gName 6) (gCons (gName 7) (gCons (gName 8) gNil)))))) (t__law_due_1 K ))
abbrev t__law_due_3 (K : PySem.W.Frag)  : TS :=
    (tDrop (tBM K "list" rAppend (tVar 3) (tCons (tTup (tCons (tVar 6) (tCons (tVar 5) (tCons (tOp (rIx K) (tVar 2) (tVar 4)) (tCons (tVar 8) tNil))))) tNil)))
abbrev t__law_due_4 (K : PySem.W.Frag)  : TS :=
    (tSeq (tAsg (tOp (rIx K) (tOp (rIx K) (tVar 0) (tC (.int 1))) (tVar 4)) (gTup K 4 (gCons (gName 5) (gCons (gName 6) (gCons (gName 7) (gCons (gName 8) gNil)))))) (t__law_due_3 K ))
abbrev t__law_due_5 (K : PySem.W.Frag)  : TS :=
    (tRet (tTup (tCons (tOp (rIx K) (tVar 0) (tC (.int 0))) (tCons (tThen (tVar 3) (kTup K)) tNil))))
abbrev t__law_due_6 (K : PySem.W.Frag)  : TS :=
    (tSeq (tFor (iRng1 (tCons (tCB (rLenX K) (tCons (tOp (rIx K) (tVar 0) (tC (.int 1))) tNil)) tNil)) (gName 4)
    (t__law_due_4 K )) (t__law_due_5 K ))
abbrev t__law_due_7 (K : PySem.W.Frag)  : TS :=
    (tSeq (tFor (iRng1 (tCons (tCB (rLenX K) (tCons (tOp (rIx K) (tVar 0) (tC (.int 1))) tNil)) tNil)) (gName 4)
    (t__law_due_2 K )) (t__law_due_6 K ))
abbrev t__law_due (K : PySem.W.Frag)  : TS :=
    (tSeq (tAsg (tLst tNil) (gName 3)) (t__law_due_7 K ))
theorem tm__law_due {k : Nat} {f : Addr} {cdv : Value} {A : Around} {outer : List Env} {s : Shared} {H : Hp} {E : XK}  (T : Txt K mg)  (hr : Room k (A.deeper (envOfC "_law_due" (defScope st__law_due) s.heap.objs.size f cdv))) :
    PSs (cxOf C8.CX0 P w K mg base N__law_due "_law_due" (defScope st__law_due) f cdv A outer s H E).nox (defBody st__law_due) (t__law_due K ) := by
  have nd := sc__law_due.nd
  have hu := hu64 hr
  exact (pss_cons (ps_set (i := 3) nd rfl (by first | exact Or.inl rfl | exact Or.inr rfl) (pe_lst pa_nil))
    (pss_cons (ps_for PassesOwn.never rfl (pi_range1 (by rfl) T.f_range (pa_cons (pe_callB call_lenX (by rfl) T.f_len (by decide +kernel) (pa_cons (pe_ix ix_seq (pv 0) pe_int (fun _ _ => rfl)) pa_nil)) pa_nil)) (pg_name (i := 4) nd rfl (by first | exact Or.inl rfl | exact Or.inr rfl))
    (pss_cons (ps_asg (pe_ix ix_seq (pe_ix ix_seq (pv 0) pe_int (fun _ _ => rfl)) (pv 4) (fun _ _ => rfl)) (pg_tup rfl (pgs_cons (pg_name (i := 5) nd rfl (by first | exact Or.inl rfl | exact Or.inr rfl)) (pgs_cons (pg_name (i := 6) nd rfl (by first | exact Or.inl rfl | exact Or.inr rfl)) (pgs_cons (pg_name (i := 7) nd rfl (by first | exact Or.inl rfl | exact Or.inr rfl)) (pgs_cons (pg_name (i := 8) nd rfl (by first | exact Or.inl rfl | exact Or.inr rfl)) pgs_nil))))))
    (pss_one (ps_expr (pe_bm PySem.F.plainAttrs_list PySem.F.slot_list_append PySem.F.type_list_append mt_append (pv 3) (pa_cons (pe_tup (pa_cons (pv 5) (pa_cons (pv 6) (pa_cons (pe_ix ix_seq (pv 1) (pv 4) (fun _ _ => rfl)) (pa_cons (pv 8) pa_nil))))) pa_nil))))))
    (pss_cons (ps_for PassesOwn.never rfl (pi_range1 (by rfl) T.f_range (pa_cons (pe_callB call_lenX (by rfl) T.f_len (by decide +kernel) (pa_cons (pe_ix ix_seq (pv 0) pe_int (fun _ _ => rfl)) pa_nil)) pa_nil)) (pg_name (i := 4) nd rfl (by first | exact Or.inl rfl | exact Or.inr rfl))
    (pss_cons (ps_asg (pe_ix ix_seq (pe_ix ix_seq (pv 0) pe_int (fun _ _ => rfl)) (pv 4) (fun _ _ => rfl)) (pg_tup rfl (pgs_cons (pg_name (i := 5) nd rfl (by first | exact Or.inl rfl | exact Or.inr rfl)) (pgs_cons (pg_name (i := 6) nd rfl (by first | exact Or.inl rfl | exact Or.inr rfl)) (pgs_cons (pg_name (i := 7) nd rfl (by first | exact Or.inl rfl | exact Or.inr rfl)) (pgs_cons (pg_name (i := 8) nd rfl (by first | exact Or.inl rfl | exact Or.inr rfl)) pgs_nil))))))
    (pss_one (ps_expr (pe_bm PySem.F.plainAttrs_list PySem.F.slot_list_append PySem.F.type_list_append mt_append (pv 3) (pa_cons (pe_tup (pa_cons (pv 6) (pa_cons (pv 5) (pa_cons (pe_ix ix_seq (pv 2) (pv 4) (fun _ _ => rfl)) (pa_cons (pv 8) pa_nil))))) pa_nil))))))
    (pss_one (ps_ret (pe_tup (pa_cons (pe_ix ix_seq (pv 0) pe_int (fun _ _ => rfl)) (pa_cons (pe_tupleOf rfl T.f_tuple (pv 3)) pa_nil))))))))
/-! ### _law_heard -/
abbrev st__law_heard : Stmt := top 41
abbrev N__law_heard : List Str := ["net", "forth", "way", "told", "e", "kinds"]
theorem sc__law_heard : FnScope N__law_heard ["net", "forth", "way"] (defScope st__law_heard) := ⟨rfl, rfl, rfl, by decide +kernel, rfl, by decide +kernel, by decide +kernel⟩
abbrev t__law_heard_1 (K : PySem.W.Frag) (s_open_net : DSp) (s_laned_net : DSp) (s_best_forth : DSp) (s_forth_right : DSp) (W : WX) : TS :=
    (tDrop (tCallS (upSp K s_open_net) (WE W) (tCons (tVar 0) tNil)))
abbrev t__law_heard_2 (K : PySem.W.Frag) (s_open_net : DSp) (s_laned_net : DSp) (s_best_forth : DSp) (s_forth_right : DSp) (W : WX) : TS :=
    (tDrop (tCallS (upSp K s_laned_net) (WE W) (tCons (tVar 0) (tCons (tVar 1) tNil))))
abbrev t__law_heard_3 (K : PySem.W.Frag) (s_open_net : DSp) (s_laned_net : DSp) (s_best_forth : DSp) (s_forth_right : DSp) (W : WX) : TS :=
    (tDrop (tCallS (upSp K s_best_forth) (WE W) (tCons (tVar 0) (tCons (tC (.int 5)) tNil))))
abbrev t__law_heard_4 (K : PySem.W.Frag) (s_open_net : DSp) (s_laned_net : DSp) (s_best_forth : DSp) (s_forth_right : DSp) (W : WX) : TS :=
    (tDrop (tCallS (upSp K s_forth_right) (WE W) (tCons (tVar 0) (tCons (tC (.int 5)) (tCons (tVar 1) tNil)))))
abbrev t__law_heard_5 (K : PySem.W.Frag) (s_open_net : DSp) (s_laned_net : DSp) (s_best_forth : DSp) (s_forth_right : DSp) (W : WX) : TS :=
    (tIfS (tTest (tOp (rEqX K) (tVar 2) (tC (.int 3)))) (t__law_heard_4 K s_open_net s_laned_net s_best_forth s_forth_right W) tNext)
abbrev t__law_heard_6 (K : PySem.W.Frag) (s_open_net : DSp) (s_laned_net : DSp) (s_best_forth : DSp) (s_forth_right : DSp) (W : WX) : TS :=
    (tSeq (tIfS (tTest (tOp (rEqX K) (tVar 2) (tC (.int 2)))) (t__law_heard_3 K s_open_net s_laned_net s_best_forth s_forth_right W) tNext) (t__law_heard_5 K s_open_net s_laned_net s_best_forth s_forth_right W))
abbrev t__law_heard_7 (K : PySem.W.Frag) (s_open_net : DSp) (s_laned_net : DSp) (s_best_forth : DSp) (s_forth_right : DSp) (W : WX) : TS :=
    (tSeq (tIfS (tTest (tOp (rEqX K) (tVar 2) (tC (.int 1)))) (t__law_heard_2 K s_open_net s_laned_net s_best_forth s_forth_right W) tNext) (t__law_heard_6 K s_open_net s_laned_net s_best_forth s_forth_right W))
abbrev t__law_heard_8 (K : PySem.W.Frag) (s_open_net : DSp) (s_laned_net : DSp) (s_best_forth : DSp) (s_forth_right : DSp) (W : WX) : TS :=
    (tSeq (tIfS (tTest (tOp (rEqX K) (tVar 2) (tC (.int 0)))) (t__law_heard_1 K s_open_net s_laned_net s_best_forth s_forth_right W) tNext) (t__law_heard_7 K s_open_net s_laned_net s_best_forth s_forth_right W))
abbrev t__law_heard_9 (K : PySem.W.Frag) (s_open_net : DSp) (s_laned_net : DSp) (s_best_forth : DSp) (s_forth_right : DSp) : TS :=
    (tSeq (tTryAs K (.ref (He.ga K "HaulError")) 4 (fun W => (t__law_heard_8 K s_open_net s_laned_net s_best_forth s_forth_right W)) (fun a cls d => (tSeq (tAsg (tLst (tCons (tCB (rIsEx K a cls d) (tCons (tVar 4) (tCons (tC (.ref (He.ga K "TooMany"))) tNil))) (tCons (tCB (rIsEx K a cls d) (tCons (tVar 4) (tCons (tC (.ref (He.ga K "TooMuch"))) tNil))) (tCons (tCB (rIsEx K a cls d) (tCons (tVar 4) (tCons (tC (.ref (He.ga K "NoWay"))) tNil))) (tCons (tCB (rIsEx K a cls d) (tCons (tVar 4) (tCons (tC (.ref (He.ga K "BadHour"))) tNil))) tNil))))) (gName 5)) (tSeq (tAsg (tC (.str "odd")) (gName 3)) (tIfS (tAnd (tTru K (tCB (rIsEx K a cls d) (tCons (tVar 4) (tCons (tC (.ty "ValueError")) tNil)))) (tTest (tOp (rEqX K) (tBM K "list" (rCountF K) (tVar 5) (tCons (tC (.bl true)) tNil)) (tC (.int 1))))) (tAsg (tOp (rIx K) (tLst (tCons (tC (.str "many")) (tCons (tC (.str "much")) (tCons (tC (.str "way")) (tCons (tC (.str "hour")) tNil))))) (tBM K "list" (rIndex K) (tVar 5) (tCons (tC (.bl true)) tNil))) (gName 3)) tNext)))) (fun _ _ _ _ => False)) (tRet (tVar 3)))
abbrev t__law_heard (K : PySem.W.Frag) (s_open_net : DSp) (s_laned_net : DSp) (s_best_forth : DSp) (s_forth_right : DSp) : TS :=
    (tSeq (tAsg (tC (.str "none")) (gName 3)) (t__law_heard_9 K s_open_net s_laned_net s_best_forth s_forth_right))
theorem tm__law_heard {k : Nat} {f : Addr} {cdv : Value} {A : Around} {outer : List Env} {s : Shared} {H : Hp} {E : XK} {s_open_net : DSp} {s_laned_net : DSp} {s_best_forth : DSp} {s_forth_right : DSp} (T : Txt K mg) {k_open_net : Nat} (c_open_net : CalX P w K mg base k_open_net "open_net" (upSp K s_open_net)) (hk_open_net : k_open_net ≤ k) {k_laned_net : Nat} (c_laned_net : CalX P w K mg base k_laned_net "laned_net" (upSp K s_laned_net)) (hk_laned_net : k_laned_net ≤ k) {k_best_forth : Nat} (c_best_forth : CalX P w K mg base k_best_forth "best_forth" (upSp K s_best_forth)) (hk_best_forth : k_best_forth ≤ k) {k_forth_right : Nat} (c_forth_right : CalX P w K mg base k_forth_right "forth_right" (upSp K s_forth_right)) (hk_forth_right : k_forth_right ≤ k) (hr : Room k (A.deeper (envOfC "_law_heard" (defScope st__law_heard) s.heap.objs.size f cdv))) :
    PSs (cxOf C8.CX0 P w K mg base N__law_heard "_law_heard" (defScope st__law_heard) f cdv A outer s H E).nox (defBody st__law_heard) (t__law_heard K s_open_net s_laned_net s_best_forth s_forth_right) := by
  have nd := sc__law_heard.nd
  have hu := hu64 hr
  exact (pss_cons (ps_set (i := 3) nd rfl (by first | exact Or.inl rfl | exact Or.inr rfl) pe_str)
    (pss_cons (ps_try_as (i := 4) rfl rfl nd rfl rfl ⟨rfl, by decide, .inl T.g_HaulError⟩ takes0 (fun W pn xe tk po => (pss_cons (ps_if (pt_cmpR (op_eqX hu) (pv 2) pe_int (nomark _)) (pss_one (ps_expr (pe_cx c_open_net hr hk_open_net rfl tk (pa_cons (pv 0) pa_nil)))) pss_nil)
    (pss_cons (ps_if (pt_cmpR (op_eqX hu) (pv 2) pe_int (nomark _)) (pss_one (ps_expr (pe_cx c_laned_net hr hk_laned_net rfl tk (pa_cons (pv 0) (pa_cons (pv 1) pa_nil))))) pss_nil)
    (pss_cons (ps_if (pt_cmpR (op_eqX hu) (pv 2) pe_int (nomark _)) (pss_one (ps_expr (pe_cx c_best_forth hr hk_best_forth rfl tk (pa_cons (pv 0) (pa_cons pe_int pa_nil))))) pss_nil)
    (pss_one (ps_if (pt_cmpR (op_eqX hu) (pv 2) pe_int (nomark _)) (pss_one (ps_expr (pe_cx c_forth_right hr hk_forth_right rfl tk (pa_cons (pv 0) (pa_cons pe_int (pa_cons (pv 1) pa_nil)))))) pss_nil))))))
    (fun a oe cls d pn hz hf => (pss_cons (ps_set (i := 5) nd rfl (by first | exact Or.inl rfl | exact Or.inr rfl) (pe_lst (pa_cons (pe_callB (call_isEx hz hf) (by rfl) T.f_isinstance (by decide +kernel) (pa_cons (pv 4) (pa_cons (C8.pe_gc rfl ⟨_, T.g_TooMany, rfl⟩) pa_nil))) (pa_cons (pe_callB (call_isEx hz hf) (by rfl) T.f_isinstance (by decide +kernel) (pa_cons (pv 4) (pa_cons (C8.pe_gc rfl ⟨_, T.g_TooMuch, rfl⟩) pa_nil))) (pa_cons (pe_callB (call_isEx hz hf) (by rfl) T.f_isinstance (by decide +kernel) (pa_cons (pv 4) (pa_cons (C8.pe_gc rfl ⟨_, T.g_NoWay, rfl⟩) pa_nil))) (pa_cons (pe_callB (call_isEx hz hf) (by rfl) T.f_isinstance (by decide +kernel) (pa_cons (pv 4) (pa_cons (C8.pe_gc rfl ⟨_, T.g_BadHour, rfl⟩) pa_nil))) pa_nil))))))
    (pss_cons (ps_set (i := 3) nd rfl (by first | exact Or.inl rfl | exact Or.inr rfl) pe_str)
    (pss_one (ps_if (PW.pt (pw_and (pt_truth (pe_callB (call_isEx hz hf) (by rfl) T.f_isinstance (by decide +kernel) (pa_cons (pv 4) (pa_cons (pe_bltn rfl T.f_ValueError (by decide +kernel) rfl) pa_nil))) (fun _ => rfl)) (pw_and1 (pt_cmpR (op_eqX hu) (pe_bm PySem.F.plainAttrs_list PySem.F.slot_list_count ty_list_count mt_countF (pv 5) (pa_cons pe_bl pa_nil)) pe_int (nomark _))))) (pss_one (ps_set (i := 3) nd rfl (by first | exact Or.inl rfl | exact Or.inr rfl) (pe_ix ix_seq (pe_lst (pa_cons pe_str (pa_cons pe_str (pa_cons pe_str (pa_cons pe_str pa_nil))))) (pe_bm PySem.F.plainAttrs_list PySem.F.slot_list_index ty_list_index mt_index (pv 5) (pa_cons pe_bl pa_nil)) (fun _ _ => rfl)))) pss_nil))))))
    (pss_one (ps_ret (pv 3)))))
/-! ### _law_bad -/
abbrev st__law_bad : Stmt := top 42
abbrev N__law_bad : List Str := ["draws", "at", "net", "forth", "spot", "far", "room", "bad"]
theorem sc__law_bad : FnScope N__law_bad ["draws", "at", "net", "forth"] (defScope st__law_bad) := ⟨rfl, rfl, rfl, by decide +kernel, rfl, by decide +kernel, by decide +kernel⟩
abbrev t__law_bad_1 (K : PySem.W.Frag) (s__law_draw : DSp) : TS :=
    (tRet (tOp (rIx K) (tLst (tCons (tOp (rAddX K) (tVar 3) (tTup (tCons (tC (.int 0)) tNil))) (tCons (tOp (rAddX K) (tVar 3) (tOp (rMulX K) (tTup (tCons (tC (.int 0)) tNil)) (tOp (rAddX K) (tC (.int 1)) (tOp rIMod (tVar 5) (tC (.int 7)))))) tNil))) (tOp rIMod (tVar 5) (tC (.int 2)))))
abbrev t__law_bad_2 (K : PySem.W.Frag) (s__law_draw : DSp) : TS :=
    (tRet (tOp (rAddX K) (L2.tSl (rSlX K) (tVar 3) tNoPart (tPart (tVar 4))) (L2.tSl (rSlX K) (tVar 3) (tPart (tOp (rAddX K) (tVar 4) (tC (.int 1)))) tNoPart)))
abbrev t__law_bad_3 (K : PySem.W.Frag) (s__law_draw : DSp) : TS :=
    (tRet (tOp (rAddX K) (tOp (rAddX K) (L2.tSl (rSlX K) (tVar 3) tNoPart (tPart (tVar 4))) (tTup (tCons (tVar 7) tNil))) (L2.tSl (rSlX K) (tVar 3) (tPart (tOp (rAddX K) (tVar 4) (tC (.int 1)))) tNoPart)))
abbrev t__law_bad_4 (K : PySem.W.Frag) (s__law_draw : DSp) : TS :=
    (tSeq (tIfS (tTest (tOp (rEqX K) (tCall (upSp K s__law_draw) [] C8.E0 (tCons (tVar 0) (tCons (tOp (rAddX K) (tVar 1) (tC (.int 3))) (tCons (tC (.int 5)) tNil)))) (tC (.int 0)))) (t__law_bad_2 K s__law_draw) tNext) (t__law_bad_3 K s__law_draw))
abbrev t__law_bad_5 (K : PySem.W.Frag) (s__law_draw : DSp) : TS :=
    (tSeq (tAsg (tOp (rIx K) (tLst (tCons (tUn (rU fun i => .int (-i)) (tC (.int 1))) (tCons (tOp (rAddX K) (tVar 6) (tC (.int 1))) (tCons (tOp rISub (tUn (rU fun i => .int (-i)) (tC (.int 1))) (tVar 5)) (tCons (tOp (rAddX K) (tOp (rAddX K) (tVar 6) (tC (.int 1))) (tVar 5)) tNil))))) (tCall (upSp K s__law_draw) [] C8.E0 (tCons (tVar 0) (tCons (tOp (rAddX K) (tVar 1) (tC (.int 2))) (tCons (tC (.int 4)) tNil))))) (gName 7)) (t__law_bad_4 K s__law_draw))
abbrev t__law_bad_6 (K : PySem.W.Frag) (s__law_draw : DSp) : TS :=
    (tSeq (tAsg (tOp (rIx K) (tOp (rIx K) (tOp (rIx K) (tVar 2) (tC (.int 1))) (tVar 4)) (tC (.int 2))) (gName 6)) (t__law_bad_5 K s__law_draw))
abbrev t__law_bad_7 (K : PySem.W.Frag) (s__law_draw : DSp) : TS :=
    (tSeq (tIfS (tTest (tOp (rEqX K) (tVar 4) (tCB (rLenX K) (tCons (tVar 3) tNil)))) (t__law_bad_1 K s__law_draw) tNext) (t__law_bad_6 K s__law_draw))
abbrev t__law_bad_8 (K : PySem.W.Frag) (s__law_draw : DSp) : TS :=
    (tSeq (tAsg (tCall (upSp K s__law_draw) [] C8.E0 (tCons (tVar 0) (tCons (tOp (rAddX K) (tVar 1) (tC (.int 1))) (tCons (tOp rIPow (tC (.int 10)) (tC (.int 6))) tNil)))) (gName 5)) (t__law_bad_7 K s__law_draw))
abbrev t__law_bad (K : PySem.W.Frag) (s__law_draw : DSp) : TS :=
    (tSeq (tAsg (tCall (upSp K s__law_draw) [] C8.E0 (tCons (tVar 0) (tCons (tVar 1) (tCons (tOp (rAddX K) (tCB (rLenX K) (tCons (tVar 3) tNil)) (tC (.int 1))) tNil)))) (gName 4)) (t__law_bad_8 K s__law_draw))
theorem tm__law_bad {k : Nat} {f : Addr} {cdv : Value} {A : Around} {outer : List Env} {s : Shared} {H : Hp} {E : XK} {s__law_draw : DSp} (T : Txt K mg) {k__law_draw : Nat} (c__law_draw : C8.Cal P w K mg base k__law_draw "_law_draw" (upSp K s__law_draw) []) (hk__law_draw : k__law_draw ≤ k) (hr : Room k (A.deeper (envOfC "_law_bad" (defScope st__law_bad) s.heap.objs.size f cdv))) :
    PSs (cxOf C8.CX0 P w K mg base N__law_bad "_law_bad" (defScope st__law_bad) f cdv A outer s H E).nox (defBody st__law_bad) (t__law_bad K s__law_draw) := by
  have nd := sc__law_bad.nd
  have hu := hu64 hr
  exact (pss_cons (ps_set (i := 4) nd rfl (by first | exact Or.inl rfl | exact Or.inr rfl) (C8.pe_c c__law_draw hr hk__law_draw rfl (pa_cons (pv 0) (pa_cons (pv 1) (pa_cons (pe_op op_addX (pe_callB call_lenX (by rfl) T.f_len (by decide +kernel) (pa_cons (pv 3) pa_nil)) pe_int) pa_nil)))))
    (pss_cons (ps_set (i := 5) nd rfl (by first | exact Or.inl rfl | exact Or.inr rfl) (C8.pe_c c__law_draw hr hk__law_draw rfl (pa_cons (pv 0) (pa_cons (pe_op op_addX (pv 1) pe_int) (pa_cons (pe_op op_powX pe_int pe_int) pa_nil)))))
    (pss_cons (ps_if (pt_cmpR (op_eqX hu) (pv 4) (pe_callB call_lenX (by rfl) T.f_len (by decide +kernel) (pa_cons (pv 3) pa_nil)) (nomark _)) (pss_one (ps_ret (pe_ix ix_seq (pe_lst (pa_cons (pe_op op_addX (pv 3) (pe_tup (pa_cons pe_int pa_nil))) (pa_cons (pe_op op_addX (pv 3) (pe_op op_mulX' (pe_tup (pa_cons pe_int pa_nil)) (pe_op op_addX pe_int (pe_op op_modX (pv 5) pe_int)))) pa_nil))) (pe_op op_modX (pv 5) pe_int) (fun _ _ => rfl)))) pss_nil)
    (pss_cons (ps_set (i := 6) nd rfl (by first | exact Or.inl rfl | exact Or.inr rfl) (pe_ix ix_seq (pe_ix ix_seq (pe_ix ix_seq (pv 2) pe_int (fun _ _ => rfl)) (pv 4) (fun _ _ => rfl)) pe_int (fun _ _ => rfl)))
    (pss_cons (ps_set (i := 7) nd rfl (by first | exact Or.inl rfl | exact Or.inr rfl) (pe_ix ix_seq (pe_lst (pa_cons (pe_un un_neg pe_int) (pa_cons (pe_op op_addX (pv 6) pe_int) (pa_cons (pe_op op_subX (pe_un un_neg pe_int) (pv 5)) (pa_cons (pe_op op_addX (pe_op op_addX (pv 6) pe_int) (pv 5)) pa_nil))))) (C8.pe_c c__law_draw hr hk__law_draw rfl (pa_cons (pv 0) (pa_cons (pe_op op_addX (pv 1) pe_int) (pa_cons pe_int pa_nil)))) (fun _ _ => rfl)))
    (pss_cons (ps_if (pt_cmpR (op_eqX hu) (C8.pe_c c__law_draw hr hk__law_draw rfl (pa_cons (pv 0) (pa_cons (pe_op op_addX (pv 1) pe_int) (pa_cons pe_int pa_nil)))) pe_int (nomark _)) (pss_one (ps_ret (pe_op op_addX (pe_slice sl_X (pv 3) po_none (po_some (pv 4))) (pe_slice sl_X (pv 3) (po_some (pe_op op_addX (pv 4) pe_int)) po_none)))) pss_nil)
    (pss_one (ps_ret (pe_op op_addX (pe_op op_addX (pe_slice sl_X (pv 3) po_none (po_some (pv 4))) (pe_tup (pa_cons (pv 7) pa_nil))) (pe_slice sl_X (pv 3) (po_some (pe_op op_addX (pv 4) pe_int)) po_none))))))))))
/-! ### _law_wider -/
abbrev st__law_wider : Stmt := top 43
abbrev N__law_wider : List Str := ["draws", "net", "many", "ways"]
theorem sc__law_wider : FnScope N__law_wider ["draws", "net"] (defScope st__law_wider) := ⟨rfl, rfl, rfl, by decide +kernel, rfl, by decide +kernel, by decide +kernel⟩
abbrev t__law_wider_1 (K : PySem.W.Frag) (s__law_draw : DSp) (s_made_net : DSp) : TS :=
    (tDrop (tBM K "list" rAppend (tVar 3) (tCons (tTup (tCons (tC (.int 0)) (tCons (tOp rISub (tOp (rIx K) (tVar 1) (tC (.int 0))) (tC (.int 1))) (tCons (tCB (rLenX K) (tCons (tVar 3) tNil)) (tCons (tOp (rAddX K) (tC (.int 1)) (tCB (rLenX K) (tCons (tVar 3) tNil))) tNil))))) tNil)))
abbrev t__law_wider_2 (K : PySem.W.Frag) (s__law_draw : DSp) (s_made_net : DSp) : TS :=
    (tRet (tCall (upSp K s_made_net) [] C8.E0 (tCons (tOp (rIx K) (tVar 1) (tC (.int 0))) (tCons (tVar 3) tNil))))
abbrev t__law_wider_3 (K : PySem.W.Frag) (s__law_draw : DSp) (s_made_net : DSp) : TS :=
    (tSeq (tWhile (tTest (tOp (rLtX K) (tCB (rLenX K) (tCons (tVar 3) tNil)) (tVar 2)))
    (t__law_wider_1 K s__law_draw s_made_net)) (t__law_wider_2 K s__law_draw s_made_net))
abbrev t__law_wider_4 (K : PySem.W.Frag) (s__law_draw : DSp) (s_made_net : DSp) : TS :=
    (tSeq (tAsg (tCB (Evl.rListS K) (tCons (tOp (rIx K) (tVar 1) (tC (.int 1))) tNil)) (gName 3)) (t__law_wider_3 K s__law_draw s_made_net))
abbrev t__law_wider (K : PySem.W.Frag) (s__law_draw : DSp) (s_made_net : DSp) : TS :=
    (tSeq (tAsg (tOp (rAddX K) (tC (.int 7)) (tCall (upSp K s__law_draw) [] C8.E0 (tCons (tVar 0) (tCons (tC (.int 290)) (tCons (tC (.int 6)) tNil))))) (gName 2)) (t__law_wider_4 K s__law_draw s_made_net))
theorem tm__law_wider {k : Nat} {f : Addr} {cdv : Value} {A : Around} {outer : List Env} {s : Shared} {H : Hp} {E : XK} {s__law_draw : DSp} {s_made_net : DSp} (T : Txt K mg) {k__law_draw : Nat} (c__law_draw : C8.Cal P w K mg base k__law_draw "_law_draw" (upSp K s__law_draw) []) (hk__law_draw : k__law_draw ≤ k) {k_made_net : Nat} (c_made_net : C8.Cal P w K mg base k_made_net "made_net" (upSp K s_made_net) []) (hk_made_net : k_made_net ≤ k) (hr : Room k (A.deeper (envOfC "_law_wider" (defScope st__law_wider) s.heap.objs.size f cdv))) :
    PSs (cxOf C8.CX0 P w K mg base N__law_wider "_law_wider" (defScope st__law_wider) f cdv A outer s H E).nox (defBody st__law_wider) (t__law_wider K s__law_draw s_made_net) := by
  have nd := sc__law_wider.nd
  have hu := hu64 hr
  exact (pss_cons (ps_set (i := 2) nd rfl (by first | exact Or.inl rfl | exact Or.inr rfl) (pe_op op_addX pe_int (C8.pe_c c__law_draw hr hk__law_draw rfl (pa_cons (pv 0) (pa_cons pe_int (pa_cons pe_int pa_nil))))))
    (pss_cons (ps_set (i := 3) nd rfl (by first | exact Or.inl rfl | exact Or.inr rfl) (pe_callTy call_listX (by rfl) T.f_list (by decide +kernel) (pa_cons (pe_ix ix_seq (pv 1) pe_int (fun _ _ => rfl)) pa_nil)))
    (pss_cons (ps_while PassesOwn.never (pt_cmpR (op_ltX hu) (pe_callB call_lenX (by rfl) T.f_len (by decide +kernel) (pa_cons (pv 3) pa_nil)) (pv 2) (nomark _))
    (pss_one (ps_expr (pe_bm PySem.F.plainAttrs_list PySem.F.slot_list_append PySem.F.type_list_append mt_append (pv 3) (pa_cons (pe_tup (pa_cons pe_int (pa_cons (pe_op op_subX (pe_ix ix_seq (pv 1) pe_int (fun _ _ => rfl)) pe_int) (pa_cons (pe_callB call_lenX (by rfl) T.f_len (by decide +kernel) (pa_cons (pv 3) pa_nil)) (pa_cons (pe_op op_addX pe_int (pe_callB call_lenX (by rfl) T.f_len (by decide +kernel) (pa_cons (pv 3) pa_nil))) pa_nil))))) pa_nil)))))
    (pss_one (ps_ret (C8.pe_c c_made_net hr hk_made_net rfl (pa_cons (pe_ix ix_seq (pv 1) pe_int (fun _ _ => rfl)) (pa_cons (pv 3) pa_nil))))))))
/-! ### law -/
abbrev st_law : Stmt := top 44
abbrev N_law : List Str := ["script", "draws", "net", "rooms", "turn", "wider", "due", "forth", "back", "bad", "way", "k"]
theorem sc_law : FnScope N_law ["script"] (defScope st_law) := ⟨rfl, rfl, rfl, by decide +kernel, rfl, by decide +kernel, by decide +kernel⟩
abbrev t_law_1 (K : PySem.W.Frag) (s__law_all : DSp) (s__law_net : DSp) (s_open_net : DSp) (s__law_due : DSp) (s__law_wide : DSp) (s_laned_net : DSp) (s__law_bad : DSp) (s__law_heard : DSp) (s_forth_right : DSp) (s__law_wider : DSp) : TS :=
    (tIfS (tOr (tTest (tOp (rNeX K) (tCall (upSp K s__law_heard) [] C8.E0 (tCons (tVar 2) (tCons (tVar 9) (tCons (tC (.int 1)) tNil)))) (tC (.str "much")))) (tTest (tOp rNotB (tCall (upSp K s_forth_right) [] C8.E0 (tCons (tVar 2) (tCons (tC (.int 5)) (tCons (tVar 9) tNil)))) (tC (.bl false))))) (tRet (tC (.bl false))) tNext)
abbrev t_law_2 (K : PySem.W.Frag) (s__law_all : DSp) (s__law_net : DSp) (s_open_net : DSp) (s__law_due : DSp) (s__law_wide : DSp) (s_laned_net : DSp) (s__law_bad : DSp) (s__law_heard : DSp) (s_forth_right : DSp) (s__law_wider : DSp) : TS :=
    (tSeq (tAsg (tCall (upSp K s__law_bad) [] C8.E0 (tCons (tVar 1) (tCons (tOp (rAddX K) (tC (.int 200)) (tOp (rMulX K) (tC (.int 5)) (tVar 4))) (tCons (tVar 2) (tCons (tVar 7) tNil))))) (gName 9)) (t_law_1 K s__law_all s__law_net s_open_net s__law_due s__law_wide s_laned_net s__law_bad s__law_heard s_forth_right s__law_wider))
abbrev t_law_3 (K : PySem.W.Frag) (s__law_all : DSp) (s__law_net : DSp) (s_open_net : DSp) (s__law_due : DSp) (s__law_wide : DSp) (s_laned_net : DSp) (s__law_bad : DSp) (s__law_heard : DSp) (s_forth_right : DSp) (s__law_wider : DSp) : TS :=
    (tSeq (tIfS (tTest (tOp (rNeX K) (tCall (upSp K s_laned_net) [] C8.E0 (tCons (tVar 2) (tCons (tVar 7) tNil))) (tCall (upSp K s__law_due) [] C8.E0 (tCons (tVar 2) (tCons (tVar 7) (tCons (tVar 8) tNil)))))) (tRet (tC (.bl false))) tNext) (t_law_2 K s__law_all s__law_net s_open_net s__law_due s__law_wide s_laned_net s__law_bad s__law_heard s_forth_right s__law_wider))
abbrev t_law_4 (K : PySem.W.Frag) (s__law_all : DSp) (s__law_net : DSp) (s_open_net : DSp) (s__law_due : DSp) (s__law_wide : DSp) (s_laned_net : DSp) (s__law_bad : DSp) (s__law_heard : DSp) (s_forth_right : DSp) (s__law_wider : DSp) : TS :=
    (tSeq (tAsg (tLc (iRng1 (tCons (tCB (rLenX K) (tCons (tVar 3) tNil)) tNil)) (gName 11) tYes (tOp rISub (tOp (rIx K) (tVar 3) (tVar 11)) (tOp (rIx K) (tVar 7) (tVar 11))) [11]) (gName 8)) (t_law_3 K s__law_all s__law_net s_open_net s__law_due s__law_wide s_laned_net s__law_bad s__law_heard s_forth_right s__law_wider))
abbrev t_law_5 (K : PySem.W.Frag) (s__law_all : DSp) (s__law_net : DSp) (s_open_net : DSp) (s__law_due : DSp) (s__law_wide : DSp) (s_laned_net : DSp) (s__law_bad : DSp) (s__law_heard : DSp) (s_forth_right : DSp) (s__law_wider : DSp) : TS :=
    (tSeq (tAsg (tThen (tLc (iRng1 (tCons (tCB (rLenX K) (tCons (tVar 3) tNil)) tNil)) (gName 11) tYes (tCall (upSp K s__law_wide) [] C8.E0 (tCons (tVar 1) (tCons (tOp (rAddX K) (tOp (rAddX K) (tC (.int 100)) (tOp (rMulX K) (tC (.int 20)) (tVar 4))) (tOp (rMulX K) (tC (.int 2)) (tVar 11))) (tCons (tOp (rAddX K) (tOp (rIx K) (tVar 3) (tVar 11)) (tC (.int 1))) tNil)))) [11]) (kTup K)) (gName 7)) (t_law_4 K s__law_all s__law_net s_open_net s__law_due s__law_wide s_laned_net s__law_bad s__law_heard s_forth_right s__law_wider))
abbrev t_law_6 (K : PySem.W.Frag) (s__law_all : DSp) (s__law_net : DSp) (s_open_net : DSp) (s__law_due : DSp) (s__law_wide : DSp) (s_laned_net : DSp) (s__law_bad : DSp) (s__law_heard : DSp) (s_forth_right : DSp) (s__law_wider : DSp) : TS :=
    (tIfS (tTest (tOp (rNeX K) (tLc (iRng1 (tCons (tC (.int 4)) tNil)) (gName 10) tYes (tCall (upSp K s__law_heard) [] C8.E0 (tCons (tVar 5) (tCons (tVar 7) (tCons (tVar 10) tNil)))) [10]) (tOp (rMulX K) (tLst (tCons (tC (.str "many")) tNil)) (tC (.int 4))))) (tRet (tC (.bl false))) tNext)
abbrev t_law_7 (K : PySem.W.Frag) (s__law_all : DSp) (s__law_net : DSp) (s_open_net : DSp) (s__law_due : DSp) (s__law_wide : DSp) (s_laned_net : DSp) (s__law_bad : DSp) (s__law_heard : DSp) (s_forth_right : DSp) (s__law_wider : DSp) : TS :=
    (tSeq (tFor (iSeq K (tLst (tCons (tVar 6) (tCons (L2.tSl (rSlX K) (tVar 6) (tPart (tC (.int 1))) tNoPart) (tCons (tOp (rAddX K) (tVar 6) (tTup (tCons (tC (.int 0)) tNil))) (tCons (tOp (rAddX K) (tTup (tCons (tUn (rU fun i => .int (-i)) (tC (.int 1))) tNil)) (L2.tSl (rSlX K) (tVar 6) (tPart (tC (.int 1))) tNoPart)) tNil)))))) (gName 7)
    (t_law_6 K s__law_all s__law_net s_open_net s__law_due s__law_wide s_laned_net s__law_bad s__law_heard s_forth_right s__law_wider)) (tRet (tC (.bl true))))
abbrev t_law_8 (K : PySem.W.Frag) (s__law_all : DSp) (s__law_net : DSp) (s_open_net : DSp) (s__law_due : DSp) (s__law_wide : DSp) (s_laned_net : DSp) (s__law_bad : DSp) (s__law_heard : DSp) (s_forth_right : DSp) (s__law_wider : DSp) : TS :=
    (tSeq (tAsg (tThen (tLc (iSeq K (tOp (rIx K) (tVar 5) (tC (.int 1)))) (gName 10) tYes (tOp (rIx K) (tVar 10) (tC (.int 2))) [10]) (kTup K)) (gName 6)) (t_law_7 K s__law_all s__law_net s_open_net s__law_due s__law_wide s_laned_net s__law_bad s__law_heard s_forth_right s__law_wider))
abbrev t_law_9 (K : PySem.W.Frag) (s__law_all : DSp) (s__law_net : DSp) (s_open_net : DSp) (s__law_due : DSp) (s__law_wide : DSp) (s_laned_net : DSp) (s__law_bad : DSp) (s__law_heard : DSp) (s_forth_right : DSp) (s__law_wider : DSp) : TS :=
    (tSeq (tAsg (tCall (upSp K s__law_wider) [] C8.E0 (tCons (tVar 1) (tCons (tVar 2) tNil))) (gName 5)) (t_law_8 K s__law_all s__law_net s_open_net s__law_due s__law_wide s_laned_net s__law_bad s__law_heard s_forth_right s__law_wider))
abbrev t_law_10 (K : PySem.W.Frag) (s__law_all : DSp) (s__law_net : DSp) (s_open_net : DSp) (s__law_due : DSp) (s__law_wide : DSp) (s_laned_net : DSp) (s__law_bad : DSp) (s__law_heard : DSp) (s_forth_right : DSp) (s__law_wider : DSp) : TS :=
    (tSeq (tFor (iRng1 (tCons (tC (.int 4)) tNil)) (gName 4)
    (t_law_5 K s__law_all s__law_net s_open_net s__law_due s__law_wide s_laned_net s__law_bad s__law_heard s_forth_right s__law_wider)) (t_law_9 K s__law_all s__law_net s_open_net s__law_due s__law_wide s_laned_net s__law_bad s__law_heard s_forth_right s__law_wider))
abbrev t_law_11 (K : PySem.W.Frag) (s__law_all : DSp) (s__law_net : DSp) (s_open_net : DSp) (s__law_due : DSp) (s__law_wide : DSp) (s_laned_net : DSp) (s__law_bad : DSp) (s__law_heard : DSp) (s_forth_right : DSp) (s__law_wider : DSp) : TS :=
    (tSeq (tIfS (tTest (tOp (rNeX K) (tCall (upSp K s_open_net) [] C8.E0 (tCons (tVar 2) tNil)) (tCall (upSp K s__law_due) [] C8.E0 (tCons (tVar 2) (tCons (tVar 3) (tCons (tVar 3) tNil)))))) (tRet (tC (.bl false))) tNext) (t_law_10 K s__law_all s__law_net s_open_net s__law_due s__law_wide s_laned_net s__law_bad s__law_heard s_forth_right s__law_wider))
abbrev t_law_12 (K : PySem.W.Frag) (s__law_all : DSp) (s__law_net : DSp) (s_open_net : DSp) (s__law_due : DSp) (s__law_wide : DSp) (s_laned_net : DSp) (s__law_bad : DSp) (s__law_heard : DSp) (s_forth_right : DSp) (s__law_wider : DSp) : TS :=
    (tSeq (tAsg (tLc (iSeq K (tOp (rIx K) (tVar 2) (tC (.int 1)))) (gName 10) tYes (tOp (rIx K) (tVar 10) (tC (.int 2))) [10]) (gName 3)) (t_law_11 K s__law_all s__law_net s_open_net s__law_due s__law_wide s_laned_net s__law_bad s__law_heard s_forth_right s__law_wider))
abbrev t_law_13 (K : PySem.W.Frag) (s__law_all : DSp) (s__law_net : DSp) (s_open_net : DSp) (s__law_due : DSp) (s__law_wide : DSp) (s_laned_net : DSp) (s__law_bad : DSp) (s__law_heard : DSp) (s_forth_right : DSp) (s__law_wider : DSp) : TS :=
    (tSeq (tAsg (tCall (upSp K s__law_net) [] C8.E0 (tCons (tVar 1) (tCons (tC (.int 0)) (tCons (tC (.int 6)) (tCons (tC (.int 6)) tNil))))) (gName 2)) (t_law_12 K s__law_all s__law_net s_open_net s__law_due s__law_wide s_laned_net s__law_bad s__law_heard s_forth_right s__law_wider))
abbrev t_law (K : PySem.W.Frag) (s__law_all : DSp) (s__law_net : DSp) (s_open_net : DSp) (s__law_due : DSp) (s__law_wide : DSp) (s_laned_net : DSp) (s__law_bad : DSp) (s__law_heard : DSp) (s_forth_right : DSp) (s__law_wider : DSp) : TS :=
    (tSeq (tAsg (tCall (upSp K s__law_all) [] C8.E0 (tCons (tVar 0) (tCons (tC (.int 300)) tNil))) (gName 1)) (t_law_13 K s__law_all s__law_net s_open_net s__law_due s__law_wide s_laned_net s__law_bad s__law_heard s_forth_right s__law_wider))
theorem tm_law {k : Nat} {f : Addr} {cdv : Value} {A : Around} {outer : List Env} {s : Shared} {H : Hp} {E : XK} {s__law_all : DSp} {s__law_net : DSp} {s_open_net : DSp} {s__law_due : DSp} {s__law_wide : DSp} {s_laned_net : DSp} {s__law_bad : DSp} {s__law_heard : DSp} {s_forth_right : DSp} {s__law_wider : DSp} (T : Txt K mg) {k__law_all : Nat} (c__law_all : C8.Cal P w K mg base k__law_all "_law_all" (upSp K s__law_all) []) (hk__law_all : k__law_all ≤ k) {k__law_net : Nat} (c__law_net : C8.Cal P w K mg base k__law_net "_law_net" (upSp K s__law_net) []) (hk__law_net : k__law_net ≤ k) {k_open_net : Nat} (c_open_net : CalX P w K mg base k_open_net "open_net" (upSp K s_open_net)) (hk_open_net : k_open_net ≤ k) {k__law_due : Nat} (c__law_due : C8.Cal P w K mg base k__law_due "_law_due" (upSp K s__law_due) []) (hk__law_due : k__law_due ≤ k) {k__law_wide : Nat} (c__law_wide : C8.Cal P w K mg base k__law_wide "_law_wide" (upSp K s__law_wide) []) (hk__law_wide : k__law_wide ≤ k) {k_laned_net : Nat} (c_laned_net : CalX P w K mg base k_laned_net "laned_net" (upSp K s_laned_net)) (hk_laned_net : k_laned_net ≤ k) {k__law_bad : Nat} (c__law_bad : C8.Cal P w K mg base k__law_bad "_law_bad" (upSp K s__law_bad) []) (hk__law_bad : k__law_bad ≤ k) {k__law_heard : Nat} (c__law_heard : C8.Cal P w K mg base k__law_heard "_law_heard" (upSp K s__law_heard) []) (hk__law_heard : k__law_heard ≤ k) {k_forth_right : Nat} (c_forth_right : CalX P w K mg base k_forth_right "forth_right" (upSp K s_forth_right)) (hk_forth_right : k_forth_right ≤ k) {k__law_wider : Nat} (c__law_wider : C8.Cal P w K mg base k__law_wider "_law_wider" (upSp K s__law_wider) []) (hk__law_wider : k__law_wider ≤ k) (hr : Room k (A.deeper (envOfC "law" (defScope st_law) s.heap.objs.size f cdv))) :
    PSs (cxOf C8.CX0 P w K mg base N_law "law" (defScope st_law) f cdv A outer s H E).nox (defBody st_law) (t_law K s__law_all s__law_net s_open_net s__law_due s__law_wide s_laned_net s__law_bad s__law_heard s_forth_right s__law_wider) := by
  have nd := sc_law.nd
  have hu := hu64 hr
  exact (pss_cons (ps_set (i := 1) nd rfl (by first | exact Or.inl rfl | exact Or.inr rfl) (C8.pe_c c__law_all hr hk__law_all rfl (pa_cons (pv 0) (pa_cons pe_int pa_nil))))
    (pss_cons (ps_set (i := 2) nd rfl (by first | exact Or.inl rfl | exact Or.inr rfl) (C8.pe_c c__law_net hr hk__law_net rfl (pa_cons (pv 1) (pa_cons pe_int (pa_cons pe_int (pa_cons pe_int pa_nil))))))
    (pss_cons (ps_set (i := 3) nd rfl (by first | exact Or.inl rfl | exact Or.inr rfl) (pe_lc (own := [("way", 10)]) (g := (gName 10)) (tt := tYes) rfl nd (pi_seqX (pe_ix ix_seq (pv 2) pe_int (fun _ _ => rfl))) (blkOk_by (by first | decide +kernel | kernel_rfl)) (fun _ _ _ _ _ => (pg_name (i := 10) nd rfl (by first | exact Or.inl rfl | exact Or.inr rfl))) (fun _ _ _ _ _ => pts_nil) (fun _ _ _ _ _ => (pe_ix ix_seq (pv 10) pe_int (fun _ _ => rfl)))))
    (pss_cons (ps_if (pt_cmpR (op_neX hu) (pe_cx0 c_open_net hr hk_open_net rfl (pa_cons (pv 2) pa_nil)) (C8.pe_c c__law_due hr hk__law_due rfl (pa_cons (pv 2) (pa_cons (pv 3) (pa_cons (pv 3) pa_nil)))) (nomark _)) (pss_one (ps_ret pe_bl)) pss_nil)
    (pss_cons (ps_for PassesOwn.never rfl (pi_range1 (by rfl) T.f_range (pa_cons pe_int pa_nil)) (pg_name (i := 4) nd rfl (by first | exact Or.inl rfl | exact Or.inr rfl))
    (pss_cons (ps_set (i := 7) nd rfl (by first | exact Or.inl rfl | exact Or.inr rfl) (pe_tupleOf rfl T.f_tuple (pe_lc (own := [("k", 11)]) (g := (gName 11)) (tt := tYes) rfl nd (pi_range1 (by rfl) T.f_range (pa_cons (pe_callB call_lenX (by rfl) T.f_len (by decide +kernel) (pa_cons (pv 3) pa_nil)) pa_nil)) (blkOk_by (by first | decide +kernel | kernel_rfl)) (fun _ _ _ _ _ => (pg_name (i := 11) nd rfl (by first | exact Or.inl rfl | exact Or.inr rfl))) (fun _ _ _ _ _ => pts_nil) (fun _ _ _ _ _ => (C8.pe_c c__law_wide hr hk__law_wide rfl (pa_cons (pv 1) (pa_cons (pe_op op_addX (pe_op op_addX pe_int (pe_op op_mulX' pe_int (pv 4))) (pe_op op_mulX' pe_int (pv 11))) (pa_cons (pe_op op_addX (pe_ix ix_seq (pv 3) (pv 11) (fun _ _ => rfl)) pe_int) pa_nil))))))))
    (pss_cons (ps_setLc (i := 8) (own := [("k", 11)]) (g := (gName 11)) (tt := tYes) (by rfl) nd rfl rfl (sw_true rfl rfl rfl (by decide +kernel)) (pi_range1 (by rfl) T.f_range (pa_cons (pe_callB call_lenX (by rfl) T.f_len (by decide +kernel) (pa_cons (pv 3) pa_nil)) pa_nil)) (blkOk_by (by first | decide +kernel | kernel_rfl)) (fun _ _ _ _ _ => (pg_name (i := 11) nd rfl (by first | exact Or.inl rfl | exact Or.inr rfl))) (fun _ _ _ _ _ => pts_nil) (fun _ _ _ _ _ => (pe_op op_subX (pe_ix ix_seq (pv 3) (pv 11) (fun _ _ => rfl)) (pe_ix ix_seq (pv 7) (pv 11) (fun _ _ => rfl)))))
    (pss_cons (ps_if (pt_cmpR (op_neX hu) (pe_cx0 c_laned_net hr hk_laned_net rfl (pa_cons (pv 2) (pa_cons (pv 7) pa_nil))) (C8.pe_c c__law_due hr hk__law_due rfl (pa_cons (pv 2) (pa_cons (pv 7) (pa_cons (pv 8) pa_nil)))) (nomark _)) (pss_one (ps_ret pe_bl)) pss_nil)
    (pss_cons (ps_set (i := 9) nd rfl (by first | exact Or.inl rfl | exact Or.inr rfl) (C8.pe_c c__law_bad hr hk__law_bad rfl (pa_cons (pv 1) (pa_cons (pe_op op_addX pe_int (pe_op op_mulX' pe_int (pv 4))) (pa_cons (pv 2) (pa_cons (pv 7) pa_nil))))))
    (pss_one (ps_if (PW.pt (pw_or (pt_cmpR (op_neX hu) (C8.pe_c c__law_heard hr hk__law_heard rfl (pa_cons (pv 2) (pa_cons (pv 9) (pa_cons pe_int pa_nil)))) pe_str (nomark _)) (pw_or1 (pt_cmpR op_notBl (pe_cx0 c_forth_right hr hk_forth_right rfl (pa_cons (pv 2) (pa_cons pe_int (pa_cons (pv 9) pa_nil)))) pe_bl (nomark _))))) (pss_one (ps_ret pe_bl)) pss_nil)))))))
    (pss_cons (ps_set (i := 5) nd rfl (by first | exact Or.inl rfl | exact Or.inr rfl) (C8.pe_c c__law_wider hr hk__law_wider rfl (pa_cons (pv 1) (pa_cons (pv 2) pa_nil))))
    (pss_cons (ps_set (i := 6) nd rfl (by first | exact Or.inl rfl | exact Or.inr rfl) (pe_tupleOf rfl T.f_tuple (pe_lc (own := [("way", 10)]) (g := (gName 10)) (tt := tYes) rfl nd (pi_seqX (pe_ix ix_seq (pv 5) pe_int (fun _ _ => rfl))) (blkOk_by (by first | decide +kernel | kernel_rfl)) (fun _ _ _ _ _ => (pg_name (i := 10) nd rfl (by first | exact Or.inl rfl | exact Or.inr rfl))) (fun _ _ _ _ _ => pts_nil) (fun _ _ _ _ _ => (pe_ix ix_seq (pv 10) pe_int (fun _ _ => rfl))))))
    (pss_cons (ps_for PassesOwn.never rfl (pi_seqX (pe_lst (pa_cons (pv 6) (pa_cons (pe_slice sl_X (pv 6) (po_some pe_int) po_none) (pa_cons (pe_op op_addX (pv 6) (pe_tup (pa_cons pe_int pa_nil))) (pa_cons (pe_op op_addX (pe_tup (pa_cons (pe_un un_neg pe_int) pa_nil)) (pe_slice sl_X (pv 6) (po_some pe_int) po_none)) pa_nil)))))) (pg_name (i := 7) nd rfl (by first | exact Or.inl rfl | exact Or.inr rfl))
    (pss_one (ps_if (pt_cmpR (op_neX hu) (pe_lc (own := [("way", 10)]) (g := (gName 10)) (tt := tYes) rfl nd (pi_range1 (by rfl) T.f_range (pa_cons pe_int pa_nil)) (blkOk_by (by first | decide +kernel | kernel_rfl)) (fun _ _ _ _ _ => (pg_name (i := 10) nd rfl (by first | exact Or.inl rfl | exact Or.inr rfl))) (fun _ _ _ _ _ => pts_nil) (fun _ _ _ _ _ => (C8.pe_c c__law_heard hr hk__law_heard rfl (pa_cons (pv 5) (pa_cons (pv 7) (pa_cons (pv 10) pa_nil)))))) (pe_op op_mulX' (pe_lst (pa_cons pe_str pa_nil)) pe_int) (nomark _)) (pss_one (ps_ret pe_bl)) pss_nil)))
    (pss_one (ps_ret pe_bl))))))))))
end
end Lw
set_option maxHeartbeats 400000
namespace Lw
open PySem PySem.Spec PyProof.Rows L2 DL
local macro_rules | `(tactic| k_state_short () "kit") => `(tactic| first | exact kt_None_int | exact kt_bool_int | exact kt_int_int | exact kt_str_int | exact kt_list_int | exact kt_tuple_int | exact kt_None_bool | exact kt_bool_bool | exact kt_int_bool | exact kt_str_bool | exact kt_list_bool | exact kt_tuple_bool | exact kt_None_list | exact kt_bool_list | exact kt_int_list | exact kt_str_list | exact kt_list_list | exact kt_tuple_list | exact kt_None_tuple | exact kt_bool_tuple | exact kt_int_tuple | exact kt_str_tuple | exact kt_list_tuple | exact kt_tuple_tuple | exact kt_None_str | exact kt_bool_str | exact kt_int_str | exact kt_str_str | exact kt_list_str | exact kt_tuple_str | exact kit_int _ | exact kit_bool _ | exact kit_list _ | exact kit_tuple _ | exact kit_str _ | assumption)
local macro_rules | `(tactic| k_state_short () "look") => `(tactic| first | assumption | exact du_same | (refine (du_ne (by first | assumption | exact Ne.symm (by assumption))).trans ?_; k_state_short () "look"))
local macro_rules | `(tactic| k_state_short () "iss") => `(tactic| first | assumption | exact IsS.tup _ | exact IsS.lst (IsL.frz _) | exact IsS.lst (IsL.rd _) | exact IsS.lst (IsL.own (by k_state_short () "look")) )
local macro_rules | `(tactic| k_state_short () "isl") => `(tactic| first | assumption | exact IsL.frz _ | exact IsL.rd _ | exact IsL.own (by k_state_short () "look"))
local macro_rules | `(tactic| k_state_short () "ism") => `(tactic| first | exact IsM.frz _ | exact IsM.own (by k_state_short () "look"))
local macro_rules | `(tactic| k_state_short () "cmul") => `(tactic| first | exact Or.inl ⟨by omega, by omega⟩ | exact Or.inr ⟨by omega, by omega⟩)
local macro_rules | `(tactic| k_state_short () "tru") => `(tactic| first | exact Tru.bl _ | exact Tru.non | exact Tru.int _ | exact Tru.tup _ | exact Tru.lst (by k_state_short () "isl"))
local macro_rules | `(tactic| k_state_short () "tyn") => `(tactic| first | exact TyN.bl _ | exact TyN.non | exact TyN.int _ | exact TyN.str _ | exact TyN.tup _ | exact tyn_of (by assumption) | exact TyN.lst (by k_state_short () "isl"))
local macro_rules | `(tactic| k_state_short () "s1") => `(tactic| with_reducible first
  | refine s_seq ?_ | refine s_asg ?_ | refine s_if ?_ | refine s_ret ?_ | refine s_drop ?_ | refine s_retN ?_ | refine s_next ?_ | refine s_brk ?_ | refine s_cont ?_ | refine s_par ?_
  | refine x_seq ?_ | refine x_if ?_ | refine x_asg (ex_call ?_) | refine x_drop (ex_call ?_) | refine x_ret (ex_call ?_) | refine x_raise ?_ | refine x_of (s_asg ?_) | refine x_of (s_drop ?_) | refine x_of (s_ret ?_) | refine x_of (s_retN ?_) | refine x_of (s_next ?_))
local macro_rules | `(tactic| k_state_short () "e1") => `(tactic| first
  | with_reducible refine e_op ?_ | ((with_reducible refine' e_var ?k1 ?_); (case k1 => rfl)) | with_reducible refine e_int ?_ | with_reducible refine e_bl ?_ | with_reducible refine e_non ?_ | with_reducible refine e_str ?_ | with_reducible refine e_ty ?_ | with_reducible refine e_cls ?_ | with_reducible refine o_none ?_ | with_reducible refine o_some ?_
  | with_reducible refine e_tup ?_ | (with_reducible refine e_isi2 ?_) | with_reducible refine e_cb ?_ | with_reducible refine a_cons ?_ | with_reducible refine a_nil ?_ | with_reducible refine e_call ?_ | with_reducible refine e_then ?_
  | with_reducible refine e_if ?_ | with_reducible refine e_andT ?_ | with_reducible refine e_orT ?_ | with_reducible refine e_notT ?_ | with_reducible refine e_chain ?_
  | with_reducible refine t_test ?_ | with_reducible refine t_tru ?_ | with_reducible refine t_not ?_ | with_reducible refine t_and ?_ | with_reducible refine t_or ?_ | with_reducible refine t_yes ?_ | with_reducible refine i_seq ?_ | with_reducible refine i_rng1 ?_ | with_reducible refine i_rng2 ?_)
local macro_rules | `(tactic| k_state_short () "r1") => `(tactic| first
  | ((with_reducible refine' r_ix ?k1 ?k2 ?_); (case k1 => k_state_short () "iss"); (case k2 => rfl))
  | with_reducible refine r_addI ?_ | with_reducible refine r_subI ?_ | with_reducible refine r_ltI ?_ | with_reducible refine r_leI ?_ | with_reducible refine r_gtI ?_ | with_reducible refine r_geI ?_ | with_reducible refine r_eqII ?_ | with_reducible refine r_neII ?_ | with_reducible refine r_isN ?_ | with_reducible refine r_notN ?_ | with_reducible refine r_isB ?_ | with_reducible refine r_notB ?_
  | ((with_reducible refine' r_modI ?k1 ?_); (case k1 => first | omega | decide)) | ((with_reducible refine' r_divI ?k1 ?k2 ?_); (case k1 => first | omega | decide); (case k2 => first | omega | decide)) | ((with_reducible refine' r_mulI ?k1 ?_); (case k1 => k_state_short () "cmul")) | ((with_reducible refine' r_powI ?k1 ?_); (case k1 => decide))
  | ((with_reducible refine' c_lenX ?k1 ?_); (case k1 => k_state_short () "iss")) | with_reducible refine c_absX ?_ | with_reducible refine c_maxX ?_ | with_reducible refine c_minX ?_ | with_reducible refine c_intX ?_
  | ((with_reducible refine' c_isi ?k1 ?k2 ?_); (case k1 => k_state_short () "tyn"); (case k2 => k_state_short () "kit"))
  | ((with_reducible refine' u_tuple ?k1 ?_); (case k1 => k_state_short () "iss"))
  | ((with_reducible refine' c_isEC ?k1 ?k2 ?_); (case k1 => assumption); (case k2 => assumption)) | ((with_reducible refine' c_isET ?k1 ?k2 ?_); (case k1 => assumption); (case k2 => assumption))
  | with_reducible refine g_name ?_ | with_reducible refine g_setL ?_ | ((with_reducible refine' g_tup ?k1 ?_); (case k1 => rfl)) | with_reducible refine g_cons ?_ | with_reducible refine g_nil ?_)
local macro_rules | `(tactic| k_state_short () "x1") => `(tactic| first
  | ((with_reducible refine' ⟨_, _, _, _, rfl, rfl, ?k1, ?k2, ?_⟩); (case k1 => k_state_short () "look"); (case k2 => rfl))
  | ((with_reducible refine' ⟨_, _, _, ?k1, ?k2, ?k3, ?_⟩); (case k1 => k_state_short () "tyn"); (case k2 => k_state_short () "kit"); (case k3 => k_state_short () "kit"))
  | ((with_reducible refine' ⟨_, rfl, ?k1, ?_⟩); (case k1 => with_reducible (refine And.intro ?_ ?_) <;> omega))
  | with_reducible refine ⟨_, rfl, ?_⟩
  | ((with_reducible refine' ⟨_, ?k1, ?_⟩); (case k1 => k_state_short () "tru"))
  | with_reducible refine And.intro (fun (_ : true = true) => ?_) (fun (e : true = false) => Bool.noConfusion e) | with_reducible refine And.intro (fun (e : false = true) => Bool.noConfusion e) (fun (_ : false = false) => ?_)
  | with_reducible refine And.intro (fun (e : true = false) => Bool.noConfusion e) (fun (_ : true = true) => ?_) | with_reducible refine And.intro (fun (_ : false = false) => ?_) (fun (e : false = true) => Bool.noConfusion e)
  | with_reducible refine And.intro (fun (e : (!true) = true) => (nt_t e).elim) (fun (_ : (!true) = false) => ?_) | with_reducible refine And.intro (fun (_ : (!false) = true) => ?_) (fun (e : (!false) = false) => (nf_f e).elim)
  | with_reducible refine And.intro (fun (_ : (!true) = false) => ?_) (fun (e : (!true) = true) => (nt_t e).elim) | with_reducible refine And.intro (fun (e : (!false) = false) => (nf_f e).elim) (fun (_ : (!false) = true) => ?_)
  | ((with_reducible refine' and_r ?k1 ?_); (case k1 => decide)) | ((with_reducible refine' and_l ?k1 ?_); (case k1 => decide)) | ((with_reducible refine' dna_r ?k1 ?_); (case k1 => decide)) | ((with_reducible refine' dna_l ?k1 ?_); (case k1 => decide))
  | with_reducible refine @And.intro (_ = true → _) (_ = false → _) ?_ ?_ | with_reducible refine @And.intro (_ = false → _) (_ = true → _) ?_ ?_
  | (with_reducible refine And.intro ?k1 ?_; (case k1 => exact Nat.le_of_ble_eq_true rfl)))
local macro_rules | `(tactic| k_state_short () "gws") => `(tactic| first | exact gws_nil | (refine gws_cons gmono_name (gw_name (by decide)) ?_; k_state_short () "gws"))
local macro_rules | `(tactic| k_state_short () "gw") => `(tactic| first | exact gw_name (by decide) | (refine gw_tup ?_; k_state_short () "gws"))
local macro_rules | `(tactic| k_state_short () "d1") => `(tactic| first | k_state_short () "s1" | k_state_short () "e1" | k_state_short () "r1" | k_state_short () "x1")
local macro_rules | `(tactic| k_state_short () "d") => `(tactic| repeat k_state_short () "d1")
structure Way where
  a : Int
  b : Int
  r : Int
  t : Int
def Way.d (w : Way) : D := .tup [.int w.a, .int w.b, .int w.r, .int w.t]
def netD (m : Int) (ws : List Way) : D := .tup [.int m, .tup (ws.map Way.d)]
structure Way.ok (m : Int) (w : Way) : Prop where
  a : 0 ≤ w.a ∧ w.a ≤ m - 1
  b : 0 ≤ w.b ∧ w.b ≤ m - 1
  ne : w.a ≠ w.b
  r : 0 ≤ w.r ∧ w.r ≤ 1000000000
  t : 1 ≤ w.t ∧ w.t ≤ 1000000
abbrev many : DX := fun C d _ => True
theorem mapD_get {ws : List Way} {i : Nat} {d : D} (e : (ws.map Way.d)[i]? = some d) : ∃ w, ws[i]? = some w ∧ d = w.d := by
  rw [List.getElem?_map] at e
  cases h : ws[i]? with
  | none => rw [h] at e; cases e
  | some w => rw [h] at e; cases e; exact ⟨w, rfl, rfl⟩
theorem ints_get {ws : List Int} {i : Nat} {d : D} (e : (ws.map D.int)[i]? = some d) : ∃ w, ws[i]? = some w ∧ d = .int w := by
  rw [List.getElem?_map] at e
  cases h : ws[i]? with
  | none => rw [h] at e; cases e
  | some w => rw [h] at e; cases e; exact ⟨w, rfl, rfl⟩
/-! ### numbers, ways -/
def sp_is_number : DSp := fun ds h Q _ => ∃ n, ds = [.int n] ∧ Q (.bl true) h
theorem pr_is_number {K : PySem.W.Frag} : ∀ ds h QD QX, sp_is_number ds h QD QX → dB K (t_is_number K) N_is_number ds h QD := by
  rintro ds h QD QX ⟨n, rfl, k⟩
  k_state_short () "d"
  exact k
def sp_is_within : DSp := fun ds h Q _ => ∃ n lo hi, ds = [.int n, .int lo, .int hi] ∧ lo ≤ n ∧ n ≤ hi ∧ Q (.bl true) h
theorem pr_is_within {K : PySem.W.Frag} : ∀ ds h QD QX, sp_is_within ds h QD QX → dB K (t_is_within K sp_is_number) N_is_within ds h QD := by
  rintro ds h QD QX ⟨n, lo, hi, rfl, h1, h2, k⟩
  k_state_short () "d"
  refine ⟨_, rfl, ?_⟩
  k_state_short () "d"
  · intro _
    k_state_short () "d"
    rw [decide_eq_true h2]
    exact k
  · intro hb
    exact absurd (decide_eq_true h1) (by rw [hb]; exact Bool.false_ne_true)
def sp_is_way : DSp := fun ds h Q _ => ∃ (w : Way) (m : Int), ds = [w.d, .int m] ∧ w.ok m ∧ Q (.bl true) h
theorem pr_is_way {K : PySem.W.Frag} : ∀ ds h QD QX, sp_is_way ds h QD QX → dB K (t_is_way K sp_is_within) N_is_way ds h QD := by
  rintro ds h QD QX ⟨w, m, rfl, ok, k⟩
  unfold Way.d
  k_state_short () "d"
  · intro hb
    cases hb
  intro _
  k_state_short () "d"
  refine ⟨_, _, _, rfl, ok.a.1, ok.a.2, ?_⟩
  k_state_short () "d"
  refine ⟨_, _, _, rfl, ok.b.1, ok.b.2, ?_⟩
  k_state_short () "d"
  · intro hb
    exact absurd (of_decide_eq_true hb) ok.ne
  · intro _
    k_state_short () "d"
    refine ⟨_, _, _, rfl, ok.r.1, ok.r.2, ?_⟩
    k_state_short () "d"
    refine ⟨_, _, _, rfl, ok.t.1, ok.t.2, ?_⟩
    exact k
/-- what the calendar of a net is made from: many, the ways' list -/
def sp_made_net : DSp := fun ds h Q _ => ∃ (m : Int) (l : Addr) (ws : List Way), ds = [.int m, .ref l] ∧ h l = some (.lst (ws.map Way.d)) ∧ (2 ≤ m ∧ m ≤ 6) ∧ ws.length ≤ 12 ∧ (∀ w ∈ ws, w.ok m) ∧ Q (netD m ws) h
theorem pr_made_net {K : PySem.W.Frag} : ∀ ds h QD QX, sp_made_net ds h QD QX → dB K (t_made_net K sp_is_within sp_is_way) N_made_net ds h QD := by
  rintro ds h QD QX ⟨m, l, ws, rfl, hl, hm, hz, ok, k⟩
  k_state_short () "d"
  refine ⟨_, _, _, rfl, hm.1, hm.2, ?_⟩
  k_state_short () "d"
  refine s_for ?_
  refine i_enum ?_
  k_state_short () "d"
  refine ⟨_, _, rfl, .own hl, fun i δ' h' => ∃ x y : Option D, δ' = [some (.int m), some (.ref l), x, y, none] ∧ h' = h, ⟨none, none, rfl, rfl⟩, ?_, ?_, ?_⟩
  · rintro i δ' h' ⟨x, y, rfl, rfl⟩
    exact .own hl
  · rintro i d δ' h' hd ⟨x, y, rfl, rfl⟩
    obtain ⟨v, h1, rfl⟩ := enumD_get hd
    obtain ⟨w, h2, rfl⟩ := mapD_get h1
    k_state_short () "d"
    refine ⟨_, _, rfl, ok w (List.mem_of_getElem? h2), ?_⟩
    k_state_short () "d"
    exact ⟨_, _, rfl, rfl⟩
  · rintro δ' h' ⟨x, y, rfl, rfl⟩
    k_state_short () "d"
    · intro hb
      have hb := of_decide_eq_true hb
      rw [List.length_map] at hb
      omega
    intro _
    k_state_short () "d"
    refine e_lcM (gw_name (by decide)) ?_
    k_state_short () "d"
    refine ⟨_, .lst (.own hl), by rw [List.length_map]; omega, .lst (.own hl), ws.map Way.d, rfl, fun i d hd => ?_, ?_⟩
    · obtain ⟨w, h2, rfl⟩ := mapD_get hd
      unfold Way.d
      k_state_short () "d"
      exact ⟨rfl, hd⟩
    k_state_short () "d"
    exact k
/-! ### lanes -/
def roomsOf (ws : List Way) : List Int := ws.map Way.r
def forthB : List Int → List Way → Bool
  | [], [] => true
  | f :: fs, w :: ws => (decide (0 ≤ f) && decide (f ≤ w.r)) && forthB fs ws
  | _, _ => false
theorem forth_len : ∀ {fs : List Int} {ws : List Way}, forthB fs ws = true → fs.length = ws.length
  | [], [], _ => rfl
  | f :: fs, w :: ws, e => by
    have e2 : ((decide (0 ≤ f) && decide (f ≤ w.r)) && forthB fs ws) = true := e
    rw [Bool.and_eq_true] at e2
    rw [List.length_cons, List.length_cons, forth_len e2.2]
  | [], _ :: _, e => Bool.noConfusion e
  | _ :: _, [], e => Bool.noConfusion e
def eachB (fs : List Int) (ws : List Way) : List Bool := List.zipWith (fun (f : Int) (w : Way) => decide (0 ≤ f) && decide (f ≤ w.r)) fs ws
theorem forth_each : ∀ {fs : List Int} {ws : List Way}, fs.length = ws.length → (eachB fs ws).all id = forthB fs ws
  | [], [], _ => rfl
  | f :: fs, w :: ws, e => by
    have e2 : fs.length = ws.length := by simpa using e
    show ((decide (0 ≤ f) && decide (f ≤ w.r)) && (eachB fs ws).all id) = ((decide (0 ≤ f) && decide (f ≤ w.r)) && forthB fs ws)
    rw [forth_each e2]
  | [], _ :: _, e => by simp at e
  | _ :: _, [], e => by simp at e
def sp_is_forth : DSp := fun ds h Q _ => ∃ (m : Int) (ws : List Way) (fs : List Int), ds = [netD m ws, .tup (fs.map D.int)] ∧ ws.length ≤ 1000 ∧ Q (.bl (forthB fs ws)) h
theorem pr_is_forth {K : PySem.W.Frag} : ∀ ds h QD QX, sp_is_forth ds h QD QX → dB K (t_is_forth K) N_is_forth ds h QD := by
  rintro ds h QD QX ⟨m, ws, fs, rfl, hz, k⟩
  unfold netD
  k_state_short () "d"
  · intro hb
    k_state_short () "d"
    rw [List.length_map, List.length_map] at hb
    have e : forthB fs ws = false := by
      cases q : forthB fs ws with
      | false => rfl
      | true => rw [forth_len q] at hb; simp at hb
    rw [e] at k
    exact k
  · intro hb
    rw [List.length_map, List.length_map] at hb
    have hl : fs.length = ws.length := by
      have : ((fs.length : Int)) = ws.length := by simpa using hb
      omega
    k_state_short () "d"
    refine e_lcM (by k_state_short () "gw") ?_
    refine i_zB ?_
    k_state_short () "d"
    refine ⟨_, _, _, _, rfl, .tup _, .tup _, by rw [zipD_len, List.length_map, List.length_map]; omega, ⟨.tup _, .tup _⟩, (eachB fs ws).map D.bl, by
      unfold eachB; rw [List.length_map, List.length_zipWith, zipD_len, List.length_map, List.length_map], fun i d hd => ?_, ?_⟩
    · obtain ⟨x, y, h1, h2, rfl⟩ := zipD_get hd
      obtain ⟨f, h3, rfl⟩ := ints_get h1
      obtain ⟨w, h4, rfl⟩ := mapD_get h2
      have e : ((eachB fs ws).map D.bl)[i]? = some (.bl (decide (0 ≤ f) && decide (f ≤ w.r))) := by
        unfold eachB
        rw [List.getElem?_map, List.getElem?_zipWith, h3, h4]; rfl
      unfold Way.d
      k_state_short () "d"
      · intro hb2
        k_state_short () "d"
        refine ⟨rfl, ?_⟩
        rw [e, hb2]; rfl
      · intro hb2
        k_state_short () "d"
        refine ⟨rfl, ?_⟩
        rw [e, hb2]; rfl
    · k_state_short () "d"
      refine c_all (.frz _) ?_
      rw [forth_each hl]
      exact k
end Lw
set_option maxHeartbeats 400000
namespace Lw
open PySem PySem.Spec PyProof.Rows L2 DL
local macro_rules | `(tactic| k_state_short () "kit") => `(tactic| first | exact kt_None_int | exact kt_bool_int | exact kt_int_int | exact kt_str_int | exact kt_list_int | exact kt_tuple_int | exact kt_None_bool | exact kt_bool_bool | exact kt_int_bool | exact kt_str_bool | exact kt_list_bool | exact kt_tuple_bool | exact kt_None_list | exact kt_bool_list | exact kt_int_list | exact kt_str_list | exact kt_list_list | exact kt_tuple_list | exact kt_None_tuple | exact kt_bool_tuple | exact kt_int_tuple | exact kt_str_tuple | exact kt_list_tuple | exact kt_tuple_tuple | exact kt_None_str | exact kt_bool_str | exact kt_int_str | exact kt_str_str | exact kt_list_str | exact kt_tuple_str | exact kit_int _ | exact kit_bool _ | exact kit_list _ | exact kit_tuple _ | exact kit_str _ | assumption)
local macro_rules | `(tactic| k_state_short () "look") => `(tactic| first | assumption | exact du_same | (refine (du_ne (by first | assumption | exact Ne.symm (by assumption))).trans ?_; k_state_short () "look"))
local macro_rules | `(tactic| k_state_short () "iss") => `(tactic| first | assumption | exact IsS.tup _ | exact IsS.lst (IsL.frz _) | exact IsS.lst (IsL.rd _) | exact IsS.lst (IsL.own (by k_state_short () "look")) )
local macro_rules | `(tactic| k_state_short () "isl") => `(tactic| first | assumption | exact IsL.frz _ | exact IsL.rd _ | exact IsL.own (by k_state_short () "look"))
local macro_rules | `(tactic| k_state_short () "ism") => `(tactic| first | exact IsM.frz _ | exact IsM.own (by k_state_short () "look"))
local macro_rules | `(tactic| k_state_short () "cmul") => `(tactic| first | exact Or.inl ⟨by omega, by omega⟩ | exact Or.inr ⟨by omega, by omega⟩)
local macro_rules | `(tactic| k_state_short () "tru") => `(tactic| first | exact Tru.bl _ | exact Tru.non | exact Tru.int _ | exact Tru.tup _ | exact Tru.lst (by k_state_short () "isl"))
local macro_rules | `(tactic| k_state_short () "tyn") => `(tactic| first | exact TyN.bl _ | exact TyN.non | exact TyN.int _ | exact TyN.str _ | exact TyN.tup _ | exact tyn_of (by assumption) | exact TyN.lst (by k_state_short () "isl"))
local macro_rules | `(tactic| k_state_short () "s1") => `(tactic| with_reducible first
  | refine s_seq ?_ | refine s_asg ?_ | refine s_if ?_ | refine s_ret ?_ | refine s_drop ?_ | refine s_retN ?_ | refine s_next ?_ | refine s_brk ?_ | refine s_cont ?_ | refine s_par ?_
  | refine x_seq ?_ | refine x_if ?_ | refine x_asg (ex_call ?_) | refine x_drop (ex_call ?_) | refine x_ret (ex_call ?_) | refine x_raise ?_ | refine x_of (s_asg ?_) | refine x_of (s_drop ?_) | refine x_of (s_ret ?_) | refine x_of (s_retN ?_) | refine x_of (s_next ?_))
local macro_rules | `(tactic| k_state_short () "e1") => `(tactic| first
  | with_reducible refine e_op ?_ | ((with_reducible refine' e_var ?k1 ?_); (case k1 => rfl)) | with_reducible refine e_int ?_ | with_reducible refine e_bl ?_ | with_reducible refine e_non ?_ | with_reducible refine e_str ?_ | with_reducible refine e_ty ?_ | with_reducible refine e_cls ?_ | with_reducible refine o_none ?_ | with_reducible refine o_some ?_
  | with_reducible refine e_tup ?_ | (with_reducible refine e_isi2 ?_) | with_reducible refine e_cb ?_ | with_reducible refine a_cons ?_ | with_reducible refine a_nil ?_ | with_reducible refine e_call ?_ | with_reducible refine e_then ?_
  | with_reducible refine e_if ?_ | with_reducible refine e_andT ?_ | with_reducible refine e_orT ?_ | with_reducible refine e_notT ?_ | with_reducible refine e_chain ?_
  | with_reducible refine t_test ?_ | with_reducible refine t_tru ?_ | with_reducible refine t_not ?_ | with_reducible refine t_and ?_ | with_reducible refine t_or ?_ | with_reducible refine t_yes ?_ | with_reducible refine i_seq ?_ | with_reducible refine i_rng1 ?_ | with_reducible refine i_rng2 ?_)
local macro_rules | `(tactic| k_state_short () "r1") => `(tactic| first
  | ((with_reducible refine' r_ix ?k1 ?k2 ?_); (case k1 => k_state_short () "iss"); (case k2 => rfl))
  | with_reducible refine r_addI ?_ | with_reducible refine r_subI ?_ | with_reducible refine r_ltI ?_ | with_reducible refine r_leI ?_ | with_reducible refine r_gtI ?_ | with_reducible refine r_geI ?_ | with_reducible refine r_eqII ?_ | with_reducible refine r_neII ?_ | with_reducible refine r_isN ?_ | with_reducible refine r_notN ?_ | with_reducible refine r_isB ?_ | with_reducible refine r_notB ?_
  | ((with_reducible refine' r_modI ?k1 ?_); (case k1 => first | omega | decide)) | ((with_reducible refine' r_divI ?k1 ?k2 ?_); (case k1 => first | omega | decide); (case k2 => first | omega | decide)) | ((with_reducible refine' r_mulI ?k1 ?_); (case k1 => k_state_short () "cmul")) | ((with_reducible refine' r_powI ?k1 ?_); (case k1 => decide))
  | ((with_reducible refine' c_lenX ?k1 ?_); (case k1 => k_state_short () "iss")) | with_reducible refine c_absX ?_ | with_reducible refine c_maxX ?_ | with_reducible refine c_minX ?_ | with_reducible refine c_intX ?_
  | ((with_reducible refine' c_isi ?k1 ?k2 ?_); (case k1 => k_state_short () "tyn"); (case k2 => k_state_short () "kit"))
  | ((with_reducible refine' u_tuple ?k1 ?_); (case k1 => k_state_short () "iss"))
  | ((with_reducible refine' c_isEC ?k1 ?k2 ?_); (case k1 => assumption); (case k2 => assumption)) | ((with_reducible refine' c_isET ?k1 ?k2 ?_); (case k1 => assumption); (case k2 => assumption))
  | with_reducible refine g_name ?_ | with_reducible refine g_setL ?_ | ((with_reducible refine' g_tup ?k1 ?_); (case k1 => rfl)) | with_reducible refine g_cons ?_ | with_reducible refine g_nil ?_)
local macro_rules | `(tactic| k_state_short () "x1") => `(tactic| first
  | ((with_reducible refine' ⟨_, _, _, _, rfl, rfl, ?k1, ?k2, ?_⟩); (case k1 => k_state_short () "look"); (case k2 => rfl))
  | ((with_reducible refine' ⟨_, _, _, ?k1, ?k2, ?k3, ?_⟩); (case k1 => k_state_short () "tyn"); (case k2 => k_state_short () "kit"); (case k3 => k_state_short () "kit"))
  | ((with_reducible refine' ⟨_, rfl, ?k1, ?_⟩); (case k1 => with_reducible (refine And.intro ?_ ?_) <;> omega))
  | with_reducible refine ⟨_, rfl, ?_⟩
  | ((with_reducible refine' ⟨_, ?k1, ?_⟩); (case k1 => k_state_short () "tru"))
  | with_reducible refine And.intro (fun (_ : true = true) => ?_) (fun (e : true = false) => Bool.noConfusion e) | with_reducible refine And.intro (fun (e : false = true) => Bool.noConfusion e) (fun (_ : false = false) => ?_)
  | with_reducible refine And.intro (fun (e : true = false) => Bool.noConfusion e) (fun (_ : true = true) => ?_) | with_reducible refine And.intro (fun (_ : false = false) => ?_) (fun (e : false = true) => Bool.noConfusion e)
  | with_reducible refine And.intro (fun (e : (!true) = true) => (nt_t e).elim) (fun (_ : (!true) = false) => ?_) | with_reducible refine And.intro (fun (_ : (!false) = true) => ?_) (fun (e : (!false) = false) => (nf_f e).elim)
  | with_reducible refine And.intro (fun (_ : (!true) = false) => ?_) (fun (e : (!true) = true) => (nt_t e).elim) | with_reducible refine And.intro (fun (e : (!false) = false) => (nf_f e).elim) (fun (_ : (!false) = true) => ?_)
  | ((with_reducible refine' and_r ?k1 ?_); (case k1 => decide)) | ((with_reducible refine' and_l ?k1 ?_); (case k1 => decide)) | ((with_reducible refine' dna_r ?k1 ?_); (case k1 => decide)) | ((with_reducible refine' dna_l ?k1 ?_); (case k1 => decide))
  | with_reducible refine @And.intro (_ = true → _) (_ = false → _) ?_ ?_ | with_reducible refine @And.intro (_ = false → _) (_ = true → _) ?_ ?_
  | (with_reducible refine And.intro ?k1 ?_; (case k1 => exact Nat.le_of_ble_eq_true rfl)))
local macro_rules | `(tactic| k_state_short () "gws") => `(tactic| first | exact gws_nil | (refine gws_cons gmono_name (gw_name (by decide)) ?_; k_state_short () "gws"))
local macro_rules | `(tactic| k_state_short () "gw") => `(tactic| first | exact gw_name (by decide) | (refine gw_tup ?_; k_state_short () "gws"))
local macro_rules | `(tactic| k_state_short () "d1") => `(tactic| first | k_state_short () "s1" | k_state_short () "e1" | k_state_short () "r1" | k_state_short () "x1")
local macro_rules | `(tactic| k_state_short () "d") => `(tactic| repeat k_state_short () "d1")
def sp_look : DSp := fun ds h Q E => ∃ (m : Int) (ws : List Way), ds = [netD m ws] ∧ (ws.length ≤ 6 → Q .non h) ∧ ∀ K : PySem.W.Frag, True
def forthW (fs : List Int) (ws : List Way) : List Way := List.zipWith (fun f w => ⟨w.a, w.b, f, w.t⟩) fs ws
def backW (fs : List Int) (ws : List Way) : List Way := List.zipWith (fun f w => ⟨w.b, w.a, f, w.t⟩) fs ws
section
variable {K : PySem.W.Frag}
def TooManyA (K : PySem.W.Frag) : Addr := He.ga K "TooMany"
def TooMuchA (K : PySem.W.Frag) : Addr := He.ga K "TooMuch"
def sp_lk (K : PySem.W.Frag) : DSp := fun ds h Q E => ∃ (m : Int) (ws : List Way), ds = [netD m ws] ∧ (ws.length ≤ 6 → Q .non h) ∧ (6 < ws.length → E (He.ga K "TooMany") none h)
theorem pr_lk : ∀ ds h QD QX, sp_lk K ds h QD QX → dBX K (t_look_at_lanes K) N_look_at_lanes ds h QD QX := by
  rintro ds h QD QX ⟨m, ws, rfl, k1, k2⟩ W
  unfold netD
  k_state_short () "d"
  · intro hb
    rw [List.length_map] at hb
    have hb := of_decide_eq_true hb
    k_state_short () "d"
    exact k2 (by omega)
  · intro hb
    rw [List.length_map] at hb
    have hb := of_decide_eq_false hb
    k_state_short () "d"
    exact k1 (by omega)
def sp_parted : DSp := fun ds h Q _ => ∃ (m : Int) (ws : List Way) (x y : D) (fs gs : List Int), ds = [netD m ws, x, y] ∧ IsS h x (fs.map D.int) ∧ IsS h y (gs.map D.int) ∧ ws.length ≤ 1000 ∧ fs.length = ws.length ∧ gs.length = ws.length ∧ Q (netD m (forthW fs ws ++ backW gs ws)) h
theorem pr_parted : ∀ ds h QD QX, sp_parted ds h QD QX → dB K (t_parted_ways K) N_parted_ways ds h QD := by
  rintro ds h QD QX ⟨m, ws, x, y, fs, gs, rfl, hx, hy, hz, l1, l2, k⟩
  have eq : ∀ (fs : List Int) (F : Int → Way → Way) (i : Nat) (x0 : Int) (w : Way), fs[i]? = some x0 → ws[i]? = some w → ((List.zipWith F fs ws).map Way.d)[i]? = some (F x0 w).d := by
    intro fs F i x0 w e1 e2
    rw [List.getElem?_map, List.getElem?_zipWith, e1, e2]; rfl
  unfold netD
  k_state_short () "d"
  refine e_lcMO (by k_state_short () "gw") ?_
  refine i_zB ?_
  k_state_short () "d"
  refine ⟨_, _, _, _, rfl, hx, .tup _, by rw [zipD_len, List.length_map, List.length_map]; omega, ⟨hx, .tup _⟩, (forthW fs ws).map Way.d, by
      unfold forthW; rw [List.length_map, List.length_zipWith, zipD_len, List.length_map, List.length_map], fun i d hd => ?_, ?_⟩
  · obtain ⟨x, y, h1, h2, rfl⟩ := zipD_get hd
    obtain ⟨f, h3, rfl⟩ := ints_get h1
    obtain ⟨w, h4, rfl⟩ := mapD_get h2
    have e := eq fs (fun f w => ⟨w.a, w.b, f, w.t⟩) i f w h3 h4
    unfold Way.d
    k_state_short () "d"
    exact ⟨rfl, e⟩
  intro l hl
  k_state_short () "d"
  have hlen : ((forthW fs ws).map Way.d).length = ws.length := by unfold forthW; rw [List.length_map, List.length_zipWith]; omega
  have hy2 : ∀ o, IsS (dupd h l o) y (gs.map D.int) := fun o => by
    cases hy with
    | tup => exact .tup _
    | lst g =>
      cases g with
      | frz => exact .lst (.frz _)
      | rd => exact .lst (.rd _)
      | own e => exact .lst (.own (by rw [du_ne (dne_none e hl)]; exact e))
  refine e_bmL ?_
  k_state_short () "d"
  refine ⟨_, .own du_same, ?_⟩
  k_state_short () "d"
  refine e_lcM (by k_state_short () "gw") ?_
  refine i_zB ?_
  k_state_short () "d"
  refine ⟨_, _, _, _, rfl, hy2 _, .tup _, by rw [zipD_len, List.length_map, List.length_map]; omega, ⟨hy2 _, .tup _⟩, (backW gs ws).map Way.d, by
      unfold backW; rw [List.length_map, List.length_zipWith, zipD_len, List.length_map, List.length_map], fun i d hd => ?_, ?_⟩
  · obtain ⟨x, y, h1, h2, rfl⟩ := zipD_get hd
    obtain ⟨f, h3, rfl⟩ := ints_get h1
    obtain ⟨w, h4, rfl⟩ := mapD_get h2
    have e := eq gs (fun f w => ⟨w.b, w.a, f, w.t⟩) i f w h3 h4
    unfold Way.d
    k_state_short () "d"
    exact ⟨rfl, e⟩
  have hlen2 : ((backW gs ws).map Way.d).length = ws.length := by unfold backW; rw [List.length_map, List.length_zipWith]; omega
  k_state_short () "d"
  refine m_extend du_same (.frz _) (by omega) ?_
  rw [du_du, ← List.map_append]
  refine s_ret (e_letgo l ?_)
  k_state_short () "d"
  rw [de_dupd hl]
  exact k
def openW (ws : List Way) : List Way := forthW (roomsOf ws) ws ++ backW (roomsOf ws) ws
def sp_open (K : PySem.W.Frag) : DSp := fun ds h Q E => ∃ (m : Int) (ws : List Way), ds = [netD m ws] ∧ ws.length ≤ 1000 ∧ (ws.length ≤ 6 → Q (netD m (openW ws)) h) ∧ (6 < ws.length → E (He.ga K "TooMany") none h)
theorem pr_open : ∀ ds h QD QX, sp_open K ds h QD QX → dBX K (t_open_net K (sp_lk K) sp_parted) N_open_net ds h QD QX := by
  rintro ds h QD QX ⟨m, ws, rfl, hz, k1, k2⟩ W
  k_state_short () "d"
  refine ⟨_, _, rfl, fun h6 => ?_, k2⟩
  k_state_short () "d"
  unfold netD
  refine e_lcM (gw_name (by decide)) ?_
  k_state_short () "d"
  refine ⟨_, .tup _, by rw [List.length_map]; omega, .tup _, (roomsOf ws).map D.int, by unfold roomsOf; rw [List.length_map, List.length_map, List.length_map], fun i d hd => ?_, ?_⟩
  · obtain ⟨w, h4, rfl⟩ := mapD_get hd
    unfold Way.d
    k_state_short () "d"
    exact ⟨rfl, by unfold roomsOf; rw [List.getElem?_map, List.getElem?_map, h4]; rfl⟩
  k_state_short () "d"
  exact ⟨_, _, _, _, _, _, rfl, .lst (.frz _), .lst (.frz _), hz, by unfold roomsOf; rw [List.length_map], by unfold roomsOf; rw [List.length_map], k1 h6⟩
def lessI (fs : List Int) (ws : List Way) : List Int := List.zipWith (fun f w => w.r - f) fs ws
def sp_laned (K : PySem.W.Frag) : DSp := fun ds h Q E => ∃ (m : Int) (ws : List Way) (fs : List Int), ds = [netD m ws, .tup (fs.map D.int)] ∧ ws.length ≤ 1000 ∧ (ws.length ≤ 6 → forthB fs ws = true → Q (netD m (forthW fs ws ++ backW (lessI fs ws) ws)) h) ∧
  (ws.length ≤ 6 → forthB fs ws = false → E (He.ga K "TooMuch") none h) ∧ (6 < ws.length → E (He.ga K "TooMany") none h)
theorem pr_laned : ∀ ds h QD QX, sp_laned K ds h QD QX → dBX K (t_laned_net K (sp_lk K) sp_is_forth sp_parted) N_laned_net ds h QD QX := by
  rintro ds h QD QX ⟨m, ws, fs, rfl, hz, k0, k1, k2⟩ W
  k_state_short () "d"
  refine ⟨_, _, rfl, fun h6 => ?_, k2⟩
  k_state_short () "d"
  refine ⟨_, _, _, rfl, hz, ?_⟩
  cases q : forthB fs ws with
  | false =>
    k_state_short () "d"
    exact k1 h6 q
  | true =>
    k_state_short () "d"
    have hl := forth_len q
    unfold netD
    refine e_lcM (by k_state_short () "gw") ?_
    refine i_zB ?_
    k_state_short () "d"
    refine ⟨_, _, _, _, rfl, .tup _, .tup _, by rw [zipD_len, List.length_map, List.length_map]; omega, ⟨.tup _, .tup _⟩, (lessI fs ws).map D.int, by
        unfold lessI; rw [List.length_map, List.length_zipWith, zipD_len, List.length_map, List.length_map], fun i d hd => ?_, ?_⟩
    · obtain ⟨x, y, h1, h2, rfl⟩ := zipD_get hd
      obtain ⟨f, h3, rfl⟩ := ints_get h1
      obtain ⟨w, h4, rfl⟩ := mapD_get h2
      unfold Way.d
      k_state_short () "d"
      exact ⟨rfl, by unfold lessI; rw [List.getElem?_map, List.getElem?_zipWith, h3, h4]; rfl⟩
    k_state_short () "d"
    exact ⟨_, _, _, _, _, _, rfl, .tup _, .lst (.frz _), hz, hl, by unfold lessI; rw [List.length_zipWith]; omega, k0 h6 q⟩
def sp_best (K : PySem.W.Frag) : DSp := fun ds h Q E => ∃ (m : Int) (ws : List Way) (n : Int), ds = [netD m ws, .int n] ∧ ws.length ≤ 1000 ∧ 6 < ws.length ∧ E (He.ga K "TooMany") none h
theorem pr_best : ∀ ds h QD QX, sp_best K ds h QD QX → dBX K (t_best_forth K (sp_open K) spNever spNever) N_best_forth ds h QD QX := by
  rintro ds h QD QX ⟨m, ws, n, rfl, hz, h6, k⟩ W
  k_state_short () "d"
  exact ⟨_, _, rfl, hz, fun q => absurd q (by omega), fun _ => k⟩
def sp_fright (K : PySem.W.Frag) : DSp := fun ds h Q E => ∃ (m : Int) (ws : List Way) (n : Int) (fs : List Int), ds = [netD m ws, .int n, .tup (fs.map D.int)] ∧ ws.length ≤ 1000 ∧ (ws.length ≤ 6 → forthB fs ws = false) ∧
  (ws.length ≤ 6 → forthB fs ws = false → Q (.bl false) h) ∧ (6 < ws.length → E (He.ga K "TooMany") none h)
theorem pr_fright : ∀ ds h QD QX, sp_fright K ds h QD QX → dBX K (t_forth_right K (sp_open K) sp_is_forth spNever (sp_laned K)) N_forth_right ds h QD QX := by
  rintro ds h QD QX ⟨m, ws, n, fs, rfl, hz, k0, k1, k2⟩ W
  k_state_short () "d"
  refine ⟨_, _, rfl, hz, fun h6 => ?_, k2⟩
  k_state_short () "d"
  refine ⟨_, _, _, rfl, hz, ?_⟩
  rw [k0 h6]
  k_state_short () "d"
  exact k1 h6 (k0 h6)
end
end Lw
set_option maxHeartbeats 400000
namespace Lw
open PySem PySem.Spec PyProof.Rows L2 DL
local macro_rules | `(tactic| k_state_short () "kit") => `(tactic| first | exact kt_None_int | exact kt_bool_int | exact kt_int_int | exact kt_str_int | exact kt_list_int | exact kt_tuple_int | exact kt_None_bool | exact kt_bool_bool | exact kt_int_bool | exact kt_str_bool | exact kt_list_bool | exact kt_tuple_bool | exact kt_None_list | exact kt_bool_list | exact kt_int_list | exact kt_str_list | exact kt_list_list | exact kt_tuple_list | exact kt_None_tuple | exact kt_bool_tuple | exact kt_int_tuple | exact kt_str_tuple | exact kt_list_tuple | exact kt_tuple_tuple | exact kt_None_str | exact kt_bool_str | exact kt_int_str | exact kt_str_str | exact kt_list_str | exact kt_tuple_str | exact kit_int _ | exact kit_bool _ | exact kit_list _ | exact kit_tuple _ | exact kit_str _ | assumption)
local macro_rules | `(tactic| k_state_short () "look") => `(tactic| first | assumption | exact du_same | (refine (du_ne (by first | assumption | exact Ne.symm (by assumption))).trans ?_; k_state_short () "look"))
local macro_rules | `(tactic| k_state_short () "iss") => `(tactic| first | assumption | exact IsS.tup _ | exact IsS.lst (IsL.frz _) | exact IsS.lst (IsL.rd _) | exact IsS.lst (IsL.own (by k_state_short () "look")) )
local macro_rules | `(tactic| k_state_short () "isl") => `(tactic| first | assumption | exact IsL.frz _ | exact IsL.rd _ | exact IsL.own (by k_state_short () "look"))
local macro_rules | `(tactic| k_state_short () "ism") => `(tactic| first | exact IsM.frz _ | exact IsM.own (by k_state_short () "look"))
local macro_rules | `(tactic| k_state_short () "cmul") => `(tactic| first | exact Or.inl ⟨by omega, by omega⟩ | exact Or.inr ⟨by omega, by omega⟩)
local macro_rules | `(tactic| k_state_short () "tru") => `(tactic| first | exact Tru.bl _ | exact Tru.non | exact Tru.int _ | exact Tru.tup _ | exact Tru.lst (by k_state_short () "isl"))
local macro_rules | `(tactic| k_state_short () "tyn") => `(tactic| first | exact TyN.bl _ | exact TyN.non | exact TyN.int _ | exact TyN.str _ | exact TyN.tup _ | exact tyn_of (by assumption) | exact TyN.lst (by k_state_short () "isl"))
local macro_rules | `(tactic| k_state_short () "s1") => `(tactic| with_reducible first
  | refine s_seq ?_ | refine s_asg ?_ | refine s_if ?_ | refine s_ret ?_ | refine s_drop ?_ | refine s_retN ?_ | refine s_next ?_ | refine s_brk ?_ | refine s_cont ?_ | refine s_par ?_
  | refine x_seq ?_ | refine x_if ?_ | refine x_asg (ex_call ?_) | refine x_drop (ex_call ?_) | refine x_ret (ex_call ?_) | refine x_raise ?_ | refine x_of (s_asg ?_) | refine x_of (s_drop ?_) | refine x_of (s_ret ?_) | refine x_of (s_retN ?_) | refine x_of (s_next ?_))
local macro_rules | `(tactic| k_state_short () "e1") => `(tactic| first
  | with_reducible refine e_op ?_ | ((with_reducible refine' e_var ?k1 ?_); (case k1 => rfl)) | with_reducible refine e_int ?_ | with_reducible refine e_bl ?_ | with_reducible refine e_non ?_ | with_reducible refine e_str ?_ | with_reducible refine e_ty ?_ | with_reducible refine e_cls ?_ | with_reducible refine o_none ?_ | with_reducible refine o_some ?_
  | with_reducible refine e_tup ?_ | (with_reducible refine e_isi2 ?_) | with_reducible refine e_cb ?_ | with_reducible refine a_cons ?_ | with_reducible refine a_nil ?_ | with_reducible refine e_call ?_ | with_reducible refine e_then ?_
  | with_reducible refine e_if ?_ | with_reducible refine e_andT ?_ | with_reducible refine e_orT ?_ | with_reducible refine e_notT ?_ | with_reducible refine e_chain ?_
  | with_reducible refine t_test ?_ | with_reducible refine t_tru ?_ | with_reducible refine t_not ?_ | with_reducible refine t_and ?_ | with_reducible refine t_or ?_ | with_reducible refine t_yes ?_ | with_reducible refine i_seq ?_ | with_reducible refine i_rng1 ?_ | with_reducible refine i_rng2 ?_)
local macro_rules | `(tactic| k_state_short () "r1") => `(tactic| first
  | ((with_reducible refine' r_ix ?k1 ?k2 ?_); (case k1 => k_state_short () "iss"); (case k2 => rfl))
  | with_reducible refine r_addI ?_ | with_reducible refine r_subI ?_ | with_reducible refine r_ltI ?_ | with_reducible refine r_leI ?_ | with_reducible refine r_gtI ?_ | with_reducible refine r_geI ?_ | with_reducible refine r_eqII ?_ | with_reducible refine r_neII ?_ | with_reducible refine r_isN ?_ | with_reducible refine r_notN ?_ | with_reducible refine r_isB ?_ | with_reducible refine r_notB ?_
  | ((with_reducible refine' r_modI ?k1 ?_); (case k1 => first | omega | decide)) | ((with_reducible refine' r_divI ?k1 ?k2 ?_); (case k1 => first | omega | decide); (case k2 => first | omega | decide)) | ((with_reducible refine' r_mulI ?k1 ?_); (case k1 => k_state_short () "cmul")) | ((with_reducible refine' r_powI ?k1 ?_); (case k1 => decide))
  | ((with_reducible refine' c_lenX ?k1 ?_); (case k1 => k_state_short () "iss")) | with_reducible refine c_absX ?_ | with_reducible refine c_maxX ?_ | with_reducible refine c_minX ?_ | with_reducible refine c_intX ?_
  | ((with_reducible refine' c_isi ?k1 ?k2 ?_); (case k1 => k_state_short () "tyn"); (case k2 => k_state_short () "kit"))
  | ((with_reducible refine' u_tuple ?k1 ?_); (case k1 => k_state_short () "iss"))
  | ((with_reducible refine' c_isEC ?k1 ?k2 ?_); (case k1 => assumption); (case k2 => assumption)) | ((with_reducible refine' c_isET ?k1 ?k2 ?_); (case k1 => assumption); (case k2 => assumption))
  | with_reducible refine g_name ?_ | with_reducible refine g_setL ?_ | ((with_reducible refine' g_tup ?k1 ?_); (case k1 => rfl)) | with_reducible refine g_cons ?_ | with_reducible refine g_nil ?_)
local macro_rules | `(tactic| k_state_short () "x1") => `(tactic| first
  | ((with_reducible refine' ⟨_, _, _, _, rfl, rfl, ?k1, ?k2, ?_⟩); (case k1 => k_state_short () "look"); (case k2 => rfl))
  | ((with_reducible refine' ⟨_, _, _, ?k1, ?k2, ?k3, ?_⟩); (case k1 => k_state_short () "tyn"); (case k2 => k_state_short () "kit"); (case k3 => k_state_short () "kit"))
  | ((with_reducible refine' ⟨_, rfl, ?k1, ?_⟩); (case k1 => with_reducible (refine And.intro ?_ ?_) <;> omega))
  | with_reducible refine ⟨_, rfl, ?_⟩
  | ((with_reducible refine' ⟨_, ?k1, ?_⟩); (case k1 => k_state_short () "tru"))
  | with_reducible refine And.intro (fun (_ : true = true) => ?_) (fun (e : true = false) => Bool.noConfusion e) | with_reducible refine And.intro (fun (e : false = true) => Bool.noConfusion e) (fun (_ : false = false) => ?_)
  | with_reducible refine And.intro (fun (e : true = false) => Bool.noConfusion e) (fun (_ : true = true) => ?_) | with_reducible refine And.intro (fun (_ : false = false) => ?_) (fun (e : false = true) => Bool.noConfusion e)
  | with_reducible refine And.intro (fun (e : (!true) = true) => (nt_t e).elim) (fun (_ : (!true) = false) => ?_) | with_reducible refine And.intro (fun (_ : (!false) = true) => ?_) (fun (e : (!false) = false) => (nf_f e).elim)
  | with_reducible refine And.intro (fun (_ : (!true) = false) => ?_) (fun (e : (!true) = true) => (nt_t e).elim) | with_reducible refine And.intro (fun (e : (!false) = false) => (nf_f e).elim) (fun (_ : (!false) = true) => ?_)
  | ((with_reducible refine' and_r ?k1 ?_); (case k1 => decide)) | ((with_reducible refine' and_l ?k1 ?_); (case k1 => decide)) | ((with_reducible refine' dna_r ?k1 ?_); (case k1 => decide)) | ((with_reducible refine' dna_l ?k1 ?_); (case k1 => decide))
  | with_reducible refine @And.intro (_ = true → _) (_ = false → _) ?_ ?_ | with_reducible refine @And.intro (_ = false → _) (_ = true → _) ?_ ?_
  | (with_reducible refine And.intro ?k1 ?_; (case k1 => exact Nat.le_of_ble_eq_true rfl)))
local macro_rules | `(tactic| k_state_short () "gws") => `(tactic| first | exact gws_nil | (refine gws_cons gmono_name (gw_name (by decide)) ?_; k_state_short () "gws"))
local macro_rules | `(tactic| k_state_short () "gw") => `(tactic| first | exact gw_name (by decide) | (refine gw_tup ?_; k_state_short () "gws"))
local macro_rules | `(tactic| k_state_short () "d1") => `(tactic| first | k_state_short () "s1" | k_state_short () "e1" | k_state_short () "r1" | k_state_short () "x1")
local macro_rules | `(tactic| k_state_short () "d") => `(tactic| repeat k_state_short () "d1")
/-- the draws -/
structure Draws (dl : List D) : Prop where
  pos : 0 < dl.length
  few : dl.length ≤ 1000
  ok : ∀ d ∈ dl, ∃ i : Int, d = .int i ∧ 0 ≤ i ∧ i < 1000000
theorem Draws.at {dl : List D} (d : Draws dl) (n : Int) : ∃ i : Int, atI dl (Int.emod n dl.length) = some (.int i) ∧ 0 ≤ i ∧ i < 1000000 := by
  have hp := d.pos
  obtain ⟨x, e1, e2⟩ := at_in (xs := dl) (n := Int.emod n dl.length) (Int.emod_nonneg _ (by omega)) (Int.emod_lt_of_pos _ (by omega))
  obtain ⟨i, rfl, h1, h2⟩ := d.ok x (List.mem_of_getElem? e2)
  exact ⟨i, e1, h1, h2⟩
section
variable {K : PySem.W.Frag}
def sp_draw : DSp := fun ds h Q _ => ∃ (dl : List D) (n m : Int), ds = [.lst dl, .int n, .int m] ∧ Draws dl ∧ 0 < m ∧ ∀ r, 0 ≤ r → r < m → Q (.int r) h
theorem pr_draw : ∀ ds h QD QX, sp_draw ds h QD QX → dB K (t__law_draw K) N__law_draw ds h QD := by
  rintro ds h QD QX ⟨dl, n, m, rfl, dw, hm, k⟩
  have hp := dw.pos
  k_state_short () "d"
  obtain ⟨i, e, _, _⟩ := dw.at n
  refine r_ix (.lst (.frz _)) e ?_
  k_state_short () "d"
  exact k _ (Int.emod_nonneg _ (by omega)) (Int.emod_lt_of_pos _ hm)
def sp_wide : DSp := fun ds h Q _ => ∃ (dl : List D) (n m : Int), ds = [.lst dl, .int n, .int m] ∧ Draws dl ∧ 0 < m ∧ ∀ r, 0 ≤ r → r < m → Q (.int r) h
theorem pr_wide : ∀ ds h QD QX, sp_wide ds h QD QX → dB K (t__law_wide K) N__law_wide ds h QD := by
  rintro ds h QD QX ⟨dl, n, m, rfl, dw, hm, k⟩
  have hp := dw.pos
  k_state_short () "d"
  obtain ⟨i, e, l1, l2⟩ := dw.at n
  refine r_ix (.lst (.frz _)) e ?_
  k_state_short () "d"
  obtain ⟨j, e2, _, _⟩ := dw.at (n + 1)
  refine r_ix (.lst (.frz _)) e2 ?_
  k_state_short () "d"
  exact k _ (Int.emod_nonneg _ (by omega)) (Int.emod_lt_of_pos _ hm)
/-- whole numbers all -/
def AllI (dl : List D) : Prop := ∀ d ∈ dl, ∃ i : Int, d = .int i
theorem alli_pl {dl : List D} (h : AllI dl) : plDs dl = true := plDs_of fun d hd => by obtain ⟨i, rfl⟩ := h d hd; rfl
theorem alli_dp {dl : List D} (h : AllI dl) : dpDs dl ≤ 0 := dpDs_of fun d hd => by obtain ⟨i, rfl⟩ := h d hd; exact Nat.le_refl _
theorem alli_at {dl : List D} (h : AllI dl) (hp : 0 < dl.length) (n : Int) : ∃ i : Int, atI dl (Int.emod n dl.length) = some (.int i) := by
  obtain ⟨x, e1, e2⟩ := at_in (xs := dl) (n := Int.emod n dl.length) (Int.emod_nonneg _ (by omega)) (Int.emod_lt_of_pos _ (by omega))
  obtain ⟨i, rfl⟩ := h x (List.mem_of_getElem? e2)
  exact ⟨i, e1⟩
theorem ixN_in {m : Nat} {n : Int} (h0 : 0 ≤ n) (h1 : n < m) : ixN m n = some n.toNat := by
  unfold ixN
  rw [if_pos h0, if_pos h1]
theorem dback2 {h h' : DH} {l f : Addr} (el : h l = none) (ef : h f = none) (e : ∀ a, a ≠ l → a ≠ f → h' a = h a) : derase (derase h' f) l = h := by
  funext a
  unfold derase
  by_cases z : a = l
  · subst z; rw [if_pos rfl, el]
  · rw [if_neg z]
    by_cases z2 : a = f
    · subst z2; rw [if_pos rfl, ef]
    · rw [if_neg z2, e a z z2]
def sp_all : DSp := fun ds h Q _ => ∃ (ns : List Int) (m : Int), ds = [.rd (ns.map D.int), .int m] ∧ ns.length ≤ 63 ∧ (0 < m ∧ m ≤ 1000) ∧ ∀ dl, Draws dl → Q (.lst dl) h
def absD : D → D
  | .int i => .int (if i < 0 then -i else i)
  | d => d
/-- between the loop's turns -/
structure Turn85 (ns : List Int) (m : Int) (cs : List D) (h : DH) (l f : Addr) (i : Nat) (δ' : DSt) (h' : DH) (ls fs : List D) : Prop where
  st : ∃ x5 x6 x8 x9 : Option D, δ' = [some (.rd (ns.map D.int)), some (.int m), some (.lst cs), some (.ref l), some (.ref f), x5, x6, none, x8, x9]
  hL : h' l = some (.lst ls)
  la : AllI ls
  lz : ls.length = cs.length
  hF : h' f = some (.lst fs)
  fz : fs.length = i
  fo : ∀ d ∈ fs, ∃ i : Int, d = .int i ∧ 0 ≤ i ∧ i < 1000000
  hk : ∀ a, a ≠ l → a ≠ f → h' a = h a
theorem all_main {ns : List Int} {m : Int} {h : DH} {QD : DK} (hm : 0 < m ∧ m ≤ 1000) (k : ∀ dl, Draws dl → QD (.lst dl) h) (cs : List D) (ca : AllI cs) (cz : cs.length ≤ 63) (cp : 0 < cs.length) :
    dS K (t__law_all_10 K) (fun _ h' => QD .non h') QD noP noP [some (.rd (ns.map D.int)), some (.int m), some (.lst cs), none, none, none, none, none, none, none] h := by
  obtain ⟨ls, el, la, lz⟩ : ∃ ls, ls = cs.map absD ∧ AllI ls ∧ ls.length = cs.length := ⟨_, rfl, fun d hd => by
    obtain ⟨c, hc, rfl⟩ := List.mem_map.mp hd
    obtain ⟨i, rfl⟩ := ca c hc
    exact ⟨_, rfl⟩, List.length_map _⟩
  k_state_short () "d"
  refine e_lcMO (gw_name (by decide)) ?_
  k_state_short () "d"
  refine ⟨_, .lst (.frz _), by omega, .lst (.frz _), ls, lz, fun i d hd => ?_, ?_⟩
  · obtain ⟨c, rfl⟩ := ca d (List.mem_of_getElem? hd)
    k_state_short () "d"
    refine ⟨rfl, ?_⟩
    rw [el, List.getElem?_map, hd]; rfl
  clear el
  intro l hl
  k_state_short () "d"
  refine e_lst ?_
  k_state_short () "d"
  intro f hf
  have nf : f ≠ l := dfresh_ne hf
  have hf0 : h f = none := dfresh_of hf
  k_state_short () "d"
  refine s_for ?_
  k_state_short () "d"
  refine ⟨fun i δ' h' => ∃ ls fs, Turn85 ns m cs h l f i δ' h' ls fs, ⟨ls, [], ⟨none, none, none, none, rfl⟩, by rw [du_ne (Ne.symm nf)]; exact du_same, la, lz, du_same, rfl, fun d hd => (by cases hd), fun a n1 n2 => by rw [du_ne n2, du_ne n1]⟩, fun _ _ _ _ => trivial, ?_, ?_⟩
  · clear hf la lz ls
    rintro i d δ' h' hd ⟨ls, fs, ⟨x5, x6, x8, x9, rfl⟩, hL, la, lz, hF, fz, fo, hk⟩
    obtain ⟨hi, rfl⟩ := rngD_get hd
    have lp : 0 < ls.length := by omega
    obtain ⟨c, ce⟩ := alli_at ca cp (0 + (i : Int))
    obtain ⟨lv, le⟩ := alli_at la lp (0 + (i : Int))
    rw [lz] at le
    have n0 : 0 ≤ Int.emod (0 + (i : Int)) cs.length := Int.emod_nonneg _ (by omega)
    have n1 : Int.emod (0 + (i : Int)) cs.length < cs.length := Int.emod_lt_of_pos _ (by omega)
    have ci : ixN ls.length (Int.emod (0 + (i : Int)) cs.length) = some (Int.emod (0 + (i : Int)) cs.length).toNat := by rw [lz]; exact ixN_in n0 n1
    have put : ∀ (v : Int) (δ2 : DSt) (h2 : DH) (ls2 : List D), 0 ≤ v → v < 1000000 → (∃ x5 x6 x8 x9 : Option D, δ2 = [some (.rd (ns.map D.int)), some (.int m), some (.lst cs), some (.ref l), some (.ref f), x5, x6, none, x8, x9]) → h2 l = some (.lst ls2) → AllI ls2 → ls2.length = cs.length →
        h2 f = some (.lst (fs ++ [.int v])) → (∀ a, a ≠ l → a ≠ f → h2 a = h' a) → ∃ ls fs, Turn85 ns m cs h l f (i + 1) δ2 h2 ls fs := by
      intro v δ2 h2 ls2 v0 v1 e1 e2 e3 e4 e5 e6
      refine ⟨ls2, _, e1, e2, e3, e4, e5, by rw [List.length_append, fz]; rfl, fun d hd => ?_, fun a p q => (e6 a p q).trans (hk a p q)⟩
      rcases List.mem_append.mp hd with w | w
      · exact fo d w
      · exact ⟨v, List.mem_singleton.mp w, v0, v1⟩
    have A : ∀ x8 x9 : Option D, dS K (t__law_all_2 K) (fun δ' h' => ∃ ls fs, Turn85 ns m cs h l f (i + 1) δ' h' ls fs) QD (dS K (tRet (tVar 4)) (fun x h' => QD D.non h') QD noP noP) (fun δ' h' => ∃ ls fs, Turn85 ns m cs h l f (i + 1) δ' h' ls fs)
        [some (.rd (ns.map D.int)), some (.int m), some (.lst cs), some (.ref l), some (.ref f), some (.int (0 + (i : Int))), some (.int (Int.emod (0 + (i : Int)) cs.length)), none, x8, x9] h' := by
      intro x8 x9
      k_state_short () "d"
      refine e_bmL ?_
      k_state_short () "d"
      refine ⟨_, .own hF, ?_⟩
      k_state_short () "d"
      refine r_ix (.lst (.own hL)) le ?_
      k_state_short () "d"
      refine m_append hF (by omega) ?_
      have hL2 : ∀ o, dupd h' f o l = some (.lst ls) := fun o => by rw [du_ne (Ne.symm nf)]; exact hL
      k_state_short () "d"
      refine r_ix (.lst (.own (hL2 _))) le ?_
      k_state_short () "d"
      refine ⟨l, ls, _, _, rfl, rfl, hL2 _, ci, ?_⟩
      refine put _ _ _ _ (Int.emod_nonneg _ (by decide)) (Int.emod_lt_of_pos _ (by decide)) ⟨_, _, _, _, rfl⟩ du_same (fun d hd => ?_) (by rw [List.length_set]; exact lz) (by rw [du_ne nf]; exact du_same) fun a n1 n2 => by rw [du_ne n1, du_ne n2]
      rcases List.mem_or_eq_of_mem_set hd with w | rfl
      · exact la d w
      · exact ⟨_, rfl⟩
    have B : ∀ x8 x9 : Option D, dS K (t__law_all_6 K) (fun δ' h' => ∃ ls fs, Turn85 ns m cs h l f (i + 1) δ' h' ls fs) QD (dS K (tRet (tVar 4)) (fun x h' => QD D.non h') QD noP noP) (fun δ' h' => ∃ ls fs, Turn85 ns m cs h l f (i + 1) δ' h' ls fs)
        [some (.rd (ns.map D.int)), some (.int m), some (.lst cs), some (.ref l), some (.ref f), some (.int (0 + (i : Int))), some (.int (Int.emod (0 + (i : Int)) cs.length)), none, x8, x9] h' := by
      intro x8 x9
      k_state_short () "d"
      refine r_ix (.lst (.frz _)) ce ?_
      k_state_short () "d"
      refine e_bmL ?_
      k_state_short () "d"
      refine ⟨_, .own hF, ?_⟩
      k_state_short () "d"
      refine m_append hF (by omega) ?_
      refine put _ _ _ ls (Int.emod_nonneg _ (by decide)) (Int.emod_lt_of_pos _ (by decide)) ⟨_, _, _, _, rfl⟩ (by rw [du_ne (Ne.symm nf)]; exact hL) la lz du_same fun a n1 n2 => by rw [du_ne n2]
    k_state_short () "d"
    refine r_ix (.lst (.frz _)) ce ?_
    k_state_short () "d"
    · intro _
      k_state_short () "d"
      refine r_ix (.lst (.own hL)) le ?_
      k_state_short () "d"
      · intro _
        exact A _ _
      · intro _
        exact B _ _
    · intro _
      exact ⟨fun e => Bool.noConfusion e, fun _ => B _ _⟩
  · rintro δ' h' ⟨ls, fs, ⟨x5, x6, x8, x9, rfl⟩, hL, la, lz, hF, fz, fo, hk⟩
    rw [rngD_len] at fz
    refine s_ret (e_letgo l (e_frz ?_))
    k_state_short () "d"
    refine ⟨f, fs, rfl, hF, ?_⟩
    rw [dback2 hl hf0 hk]
    exact k fs ⟨by omega, by omega, fo⟩
theorem pr_all : ∀ ds h QD QX, sp_all ds h QD QX → dB K (t__law_all K) N__law_all ds h QD := by
  rintro ds h QD QX ⟨ns, m, rfl, hz, hm, k⟩
  refine s_seq (s_asg (e_slL ?_))
  k_state_short () "d"
  refine ⟨_, .rd _, ?_⟩
  have ec : ∃ cs : List D, DL.cutD (ns.map D.int) none (some 63) = cs ∧ AllI cs ∧ cs.length ≤ 63 := by
    refine ⟨_, rfl, fun d hd => ?_, ?_⟩
    · unfold DL.cutD at hd
      have := List.mem_of_mem_drop (List.mem_of_mem_take hd)
      obtain ⟨i, _, rfl⟩ := List.mem_map.mp this
      exact ⟨i, rfl⟩
    · unfold DL.cutD
      rw [List.length_take, List.length_drop, List.length_map]
      omega
  obtain ⟨cs, ec, ca, cz⟩ := ec
  rw [ec]
  refine g_name (s_seq ?_)
  generalize ec2 : dS K (t__law_all_10 K) (fun _ h' => QD .non h') QD noP noP = C
  k_state_short () "d"
  refine e_lstF ?_
  k_state_short () "d"
  refine r_eqP (alli_pl ca) rfl (Nat.le_trans (Nat.succ_le_succ (alli_dp ca)) (by decide)) (by decide) ?_
  k_state_short () "d"
  · intro _
    k_state_short () "d"
    refine e_lstF ?_
    k_state_short () "d"
    rw [← ec2]
    exact all_main hm k [.int 0] (fun d hd => by cases List.mem_singleton.mp hd; exact ⟨0, rfl⟩) (by decide) (by decide)
  · intro hb
    k_state_short () "d"
    rw [← ec2]
    refine all_main hm k cs ca cz ?_
    cases cs with
    | nil => exact absurd hb (by show ¬ (PyData.eqvAll [] [] = false); simp [PyData.eqvAll])
    | cons a l => exact Nat.succ_pos _
end
end Lw
set_option maxHeartbeats 400000
namespace Lw
open PySem PySem.Spec PyProof.Rows L2 DL
local macro_rules | `(tactic| k_state_short () "kit") => `(tactic| first | exact kt_None_int | exact kt_bool_int | exact kt_int_int | exact kt_str_int | exact kt_list_int | exact kt_tuple_int | exact kt_None_bool | exact kt_bool_bool | exact kt_int_bool | exact kt_str_bool | exact kt_list_bool | exact kt_tuple_bool | exact kt_None_list | exact kt_bool_list | exact kt_int_list | exact kt_str_list | exact kt_list_list | exact kt_tuple_list | exact kt_None_tuple | exact kt_bool_tuple | exact kt_int_tuple | exact kt_str_tuple | exact kt_list_tuple | exact kt_tuple_tuple | exact kt_None_str | exact kt_bool_str | exact kt_int_str | exact kt_str_str | exact kt_list_str | exact kt_tuple_str | exact kit_int _ | exact kit_bool _ | exact kit_list _ | exact kit_tuple _ | exact kit_str _ | assumption)
local macro_rules | `(tactic| k_state_short () "look") => `(tactic| first | assumption | exact du_same | (refine (du_ne (by first | assumption | exact Ne.symm (by assumption))).trans ?_; k_state_short () "look"))
local macro_rules | `(tactic| k_state_short () "iss") => `(tactic| first | assumption | exact IsS.tup _ | exact IsS.lst (IsL.frz _) | exact IsS.lst (IsL.rd _) | exact IsS.lst (IsL.own (by k_state_short () "look")) )
local macro_rules | `(tactic| k_state_short () "isl") => `(tactic| first | assumption | exact IsL.frz _ | exact IsL.rd _ | exact IsL.own (by k_state_short () "look"))
local macro_rules | `(tactic| k_state_short () "ism") => `(tactic| first | exact IsM.frz _ | exact IsM.own (by k_state_short () "look"))
local macro_rules | `(tactic| k_state_short () "cmul") => `(tactic| first | exact Or.inl ⟨by omega, by omega⟩ | exact Or.inr ⟨by omega, by omega⟩)
local macro_rules | `(tactic| k_state_short () "tru") => `(tactic| first | exact Tru.bl _ | exact Tru.non | exact Tru.int _ | exact Tru.tup _ | exact Tru.lst (by k_state_short () "isl"))
local macro_rules | `(tactic| k_state_short () "tyn") => `(tactic| first | exact TyN.bl _ | exact TyN.non | exact TyN.int _ | exact TyN.str _ | exact TyN.tup _ | exact tyn_of (by assumption) | exact TyN.lst (by k_state_short () "isl"))
local macro_rules | `(tactic| k_state_short () "s1") => `(tactic| with_reducible first
  | refine s_seq ?_ | refine s_asg ?_ | refine s_if ?_ | refine s_ret ?_ | refine s_drop ?_ | refine s_retN ?_ | refine s_next ?_ | refine s_brk ?_ | refine s_cont ?_ | refine s_par ?_
  | refine x_seq ?_ | refine x_if ?_ | refine x_asg (ex_call ?_) | refine x_drop (ex_call ?_) | refine x_ret (ex_call ?_) | refine x_raise ?_ | refine x_of (s_asg ?_) | refine x_of (s_drop ?_) | refine x_of (s_ret ?_) | refine x_of (s_retN ?_) | refine x_of (s_next ?_))
local macro_rules | `(tactic| k_state_short () "e1") => `(tactic| first
  | with_reducible refine e_op ?_ | ((with_reducible refine' e_var ?k1 ?_); (case k1 => rfl)) | with_reducible refine e_int ?_ | with_reducible refine e_bl ?_ | with_reducible refine e_non ?_ | with_reducible refine e_str ?_ | with_reducible refine e_ty ?_ | with_reducible refine e_cls ?_ | with_reducible refine o_none ?_ | with_reducible refine o_some ?_
  | with_reducible refine e_tup ?_ | (with_reducible refine e_isi2 ?_) | with_reducible refine e_cb ?_ | with_reducible refine a_cons ?_ | with_reducible refine a_nil ?_ | with_reducible refine e_call ?_ | with_reducible refine e_then ?_
  | with_reducible refine e_if ?_ | with_reducible refine e_andT ?_ | with_reducible refine e_orT ?_ | with_reducible refine e_notT ?_ | with_reducible refine e_chain ?_
  | with_reducible refine t_test ?_ | with_reducible refine t_tru ?_ | with_reducible refine t_not ?_ | with_reducible refine t_and ?_ | with_reducible refine t_or ?_ | with_reducible refine t_yes ?_ | with_reducible refine i_seq ?_ | with_reducible refine i_rng1 ?_ | with_reducible refine i_rng2 ?_)
local macro_rules | `(tactic| k_state_short () "r1") => `(tactic| first
  | ((with_reducible refine' r_ix ?k1 ?k2 ?_); (case k1 => k_state_short () "iss"); (case k2 => rfl))
  | with_reducible refine r_addI ?_ | with_reducible refine r_subI ?_ | with_reducible refine r_ltI ?_ | with_reducible refine r_leI ?_ | with_reducible refine r_gtI ?_ | with_reducible refine r_geI ?_ | with_reducible refine r_eqII ?_ | with_reducible refine r_neII ?_ | with_reducible refine r_isN ?_ | with_reducible refine r_notN ?_ | with_reducible refine r_isB ?_ | with_reducible refine r_notB ?_
  | ((with_reducible refine' r_modI ?k1 ?_); (case k1 => first | omega | decide)) | ((with_reducible refine' r_divI ?k1 ?k2 ?_); (case k1 => first | omega | decide); (case k2 => first | omega | decide)) | ((with_reducible refine' r_mulI ?k1 ?_); (case k1 => k_state_short () "cmul")) | ((with_reducible refine' r_powI ?k1 ?_); (case k1 => decide))
  | ((with_reducible refine' c_lenX ?k1 ?_); (case k1 => k_state_short () "iss")) | with_reducible refine c_absX ?_ | with_reducible refine c_maxX ?_ | with_reducible refine c_minX ?_ | with_reducible refine c_intX ?_
  | ((with_reducible refine' c_isi ?k1 ?k2 ?_); (case k1 => k_state_short () "tyn"); (case k2 => k_state_short () "kit"))
  | ((with_reducible refine' u_tuple ?k1 ?_); (case k1 => k_state_short () "iss"))
  | ((with_reducible refine' c_isEC ?k1 ?k2 ?_); (case k1 => assumption); (case k2 => assumption)) | ((with_reducible refine' c_isET ?k1 ?k2 ?_); (case k1 => assumption); (case k2 => assumption))
  | with_reducible refine g_name ?_ | with_reducible refine g_setL ?_ | ((with_reducible refine' g_tup ?k1 ?_); (case k1 => rfl)) | with_reducible refine g_cons ?_ | with_reducible refine g_nil ?_)
local macro_rules | `(tactic| k_state_short () "x1") => `(tactic| first
  | ((with_reducible refine' ⟨_, _, _, _, rfl, rfl, ?k1, ?k2, ?_⟩); (case k1 => k_state_short () "look"); (case k2 => rfl))
  | ((with_reducible refine' ⟨_, _, _, ?k1, ?k2, ?k3, ?_⟩); (case k1 => k_state_short () "tyn"); (case k2 => k_state_short () "kit"); (case k3 => k_state_short () "kit"))
  | ((with_reducible refine' ⟨_, rfl, ?k1, ?_⟩); (case k1 => with_reducible (refine And.intro ?_ ?_) <;> omega))
  | with_reducible refine ⟨_, rfl, ?_⟩
  | ((with_reducible refine' ⟨_, ?k1, ?_⟩); (case k1 => k_state_short () "tru"))
  | with_reducible refine And.intro (fun (_ : true = true) => ?_) (fun (e : true = false) => Bool.noConfusion e) | with_reducible refine And.intro (fun (e : false = true) => Bool.noConfusion e) (fun (_ : false = false) => ?_)
  | with_reducible refine And.intro (fun (e : true = false) => Bool.noConfusion e) (fun (_ : true = true) => ?_) | with_reducible refine And.intro (fun (_ : false = false) => ?_) (fun (e : false = true) => Bool.noConfusion e)
  | with_reducible refine And.intro (fun (e : (!true) = true) => (nt_t e).elim) (fun (_ : (!true) = false) => ?_) | with_reducible refine And.intro (fun (_ : (!false) = true) => ?_) (fun (e : (!false) = false) => (nf_f e).elim)
  | with_reducible refine And.intro (fun (_ : (!true) = false) => ?_) (fun (e : (!true) = true) => (nt_t e).elim) | with_reducible refine And.intro (fun (e : (!false) = false) => (nf_f e).elim) (fun (_ : (!false) = true) => ?_)
  | ((with_reducible refine' and_r ?k1 ?_); (case k1 => decide)) | ((with_reducible refine' and_l ?k1 ?_); (case k1 => decide)) | ((with_reducible refine' dna_r ?k1 ?_); (case k1 => decide)) | ((with_reducible refine' dna_l ?k1 ?_); (case k1 => decide))
  | with_reducible refine @And.intro (_ = true → _) (_ = false → _) ?_ ?_ | with_reducible refine @And.intro (_ = false → _) (_ = true → _) ?_ ?_
  | (with_reducible refine And.intro ?k1 ?_; (case k1 => exact Nat.le_of_ble_eq_true rfl)))
local macro_rules | `(tactic| k_state_short () "gws") => `(tactic| first | exact gws_nil | (refine gws_cons gmono_name (gw_name (by decide)) ?_; k_state_short () "gws"))
local macro_rules | `(tactic| k_state_short () "gw") => `(tactic| first | exact gw_name (by decide) | (refine gw_tup ?_; k_state_short () "gws"))
local macro_rules | `(tactic| k_state_short () "d1") => `(tactic| first | k_state_short () "s1" | k_state_short () "e1" | k_state_short () "r1" | k_state_short () "x1")
local macro_rules | `(tactic| k_state_short () "d") => `(tactic| repeat k_state_short () "d1")
section
variable {K : PySem.W.Frag}
/-- one of a display -/
theorem pickI {ds : List D} {n : Int} {lo hi : Int} (h0 : 0 ≤ n) (h1 : n < ds.length) (h : ∀ d ∈ ds, ∃ i : Int, d = .int i ∧ lo ≤ i ∧ i ≤ hi) : ∃ i : Int, atI ds n = some (.int i) ∧ lo ≤ i ∧ i ≤ hi := by
  obtain ⟨d, e1, e2⟩ := at_in h0 h1
  obtain ⟨i, rfl, h2, h3⟩ := h d (List.mem_of_getElem? e2)
  exact ⟨i, e1, h2, h3⟩
theorem inI {lo hi i : Int} (h : lo ≤ i ∧ i ≤ hi) : ∃ j : Int, D.int i = .int j ∧ lo ≤ j ∧ j ≤ hi := ⟨i, rfl, h.1, h.2⟩
theorem allI_nil {P : D → Prop} : ∀ d ∈ ([] : List D), P d := fun d h => by cases h
theorem allI_cons {P : D → Prop} {x : D} {l : List D} (h : P x) (t : ∀ d ∈ l, P d) : ∀ d ∈ x :: l, P d := fun d hd => by
  rcases List.mem_cons.mp hd with rfl | w
  · exact h
  · exact t d w
def sp_net : DSp := fun ds h Q _ => ∃ (dl : List D) (n : Int), ds = [.lst dl, .int n, .int 6, .int 6] ∧ Draws dl ∧ ∀ m ws, (2 ≤ m ∧ m ≤ 6) → ws.length ≤ 6 → (∀ w ∈ ws, Way.ok m w) → Q (netD m ws) h
theorem mod_ne {a r m : Int} (ha : 0 ≤ a ∧ a < m) (hr : 0 ≤ r ∧ r < m - 1) : a ≠ (a + 1 + r) % m := by
  intro e
  by_cases w : a + 1 + r < m
  · rw [Int.emod_eq_of_lt (by omega) w] at e; omega
  · have e2 : (a + 1 + r) % m = a + 1 + r - m := by
      rw [← Int.sub_emod_right]
      exact Int.emod_eq_of_lt (by omega) (by omega)
    rw [e2] at e; omega
def InvN (dl : List D) (n m : Int) (wide : Bool) (l : Addr) (h : DH) (i : Nat) : DP := fun δ' h' => ∃ (ws : List Way) (x7 x8 x9 x10 x11 x12 : Option D), δ' = [some (.lst dl), some (.int n), some (.int 6), some (.int 6), some (.int m), some (.bl wide), some (.ref l), x7, x8, x9, x10, x11, x12] ∧ h' = dupd h l (.lst (ws.map Way.d)) ∧ ws.length = i ∧ ∀ w ∈ ws, w.ok m
theorem pr_net : ∀ ds h QD QX, sp_net ds h QD QX → dB K (t__law_net K sp_draw sp_wide sp_made_net) N__law_net ds h QD := by
  rintro ds h QD QX ⟨dl, n, rfl, dw, k⟩
  k_state_short () "d"
  refine ⟨_, _, _, rfl, dw, by decide, fun r0 l0 u0 => ?_⟩
  k_state_short () "d"
  refine ⟨_, _, _, rfl, dw, by decide, fun rw_ _ _ => ?_⟩
  k_state_short () "d"
  refine e_lst ?_
  k_state_short () "d"
  intro l hl
  generalize decide (rw_ = 0) = wide
  k_state_short () "d"
  refine s_for ?_
  k_state_short () "d"
  refine ⟨_, _, _, rfl, dw, by decide, fun ri li ui => ?_⟩
  obtain ⟨m, em⟩ : ∃ m, m = 2 + r0 := ⟨_, rfl⟩
  rw [← em]
  have hm : 2 ≤ m ∧ m ≤ 6 := by omega
  clear em l0 u0
  k_state_short () "d"
  refine ⟨InvN dl n m wide l h, ⟨[], none, none, none, none, none, none, rfl, rfl, rfl, fun w hw => (by cases hw)⟩, fun _ _ _ _ => trivial, ?_, ?_⟩
  · rintro i d δ' h' hd ⟨ws, x7, x8, x9, x10, x11, x12, rfl, rfl, wz, ok⟩
    obtain ⟨hi, rfl⟩ := rngD_get hd
    have hi6 : i < 6 := by omega
    generalize ((0 : Int) + (i : Int)) = ii at hd
    have app : ∀ (a b r t : Int) (x7 x8 : Option D), 0 ≤ a → a < m → 0 ≤ b → b < m → a ≠ b → 0 ≤ r → r ≤ 1000000000 → 1 ≤ t → t ≤ 1000000 →
      dS K (t__law_net_4 K sp_draw sp_wide sp_made_net) (InvN dl n m wide l h (i + 1)) QD (dS K (t__law_net_12 K sp_draw sp_wide sp_made_net) (fun x h' => QD D.non h') QD noP noP) (InvN dl n m wide l h (i + 1))
        [some (.lst dl), some (.int n), some (.int 6), some (.int 6), some (.int m), some (.bl wide), some (.ref l), x7, x8, some (.int a), some (.int b), some (.int r), some (.int t)] (dupd h l (.lst (ws.map Way.d))) := by
      intro a b r t x7 x8 a0 a1 b0 b1 ne r0 r1 t0 t1
      k_state_short () "d"
      refine e_bmL ?_
      k_state_short () "d"
      refine ⟨_, .own du_same, ?_⟩
      k_state_short () "d"
      refine m_append du_same (by rw [List.length_map]; omega) ?_
      refine ⟨ws ++ [⟨a, b, r, t⟩], _, _, _, _, _, _, rfl, ?_, by rw [List.length_append, wz]; rfl, fun v hv => ?_⟩
      · rw [du_du, List.map_append]; rfl
      · rcases List.mem_append.mp hv with q | q
        · exact ok v q
        · cases List.mem_singleton.mp q
          exact ⟨⟨a0, by show a ≤ m - 1; omega⟩, ⟨b0, by show b ≤ m - 1; omega⟩, ne, ⟨r0, r1⟩, t0, t1⟩
    have rest : ∀ (a b : Int) (x7 x8 x11 x12 : Option D) (sp : Int), 0 ≤ a → a < m → 0 ≤ b → b < m → a ≠ b → x8 = some (.int sp) →
      dS K (t__law_net_7 K sp_draw sp_wide sp_made_net) (InvN dl n m wide l h (i + 1)) QD (dS K (t__law_net_12 K sp_draw sp_wide sp_made_net) (fun x h' => QD D.non h') QD noP noP) (InvN dl n m wide l h (i + 1))
        [some (.lst dl), some (.int n), some (.int 6), some (.int 6), some (.int m), some (.bl wide), some (.ref l), x7, x8, some (.int a), some (.int b), x11, x12] (dupd h l (.lst (ws.map Way.d))) := by
      rintro a b x7 x8 x11 x12 sp a0 a1 b0 b1 ne rfl
      k_state_short () "d"
      refine e_lstF ?_
      k_state_short () "d"
      refine ⟨_, _, _, rfl, dw, by decide, fun q lq uq => ?_⟩
      obtain ⟨room, er, er0, er1⟩ := pickI (ds := [.int 0, .int 1, .int 2, .int 3, .int 4, .int 1, .int 2, .int 7]) (lo := 0) (hi := 7) lq uq
        (allI_cons (inI (by decide)) (allI_cons (inI (by decide)) (allI_cons (inI (by decide)) (allI_cons (inI (by decide)) (allI_cons (inI (by decide)) (allI_cons (inI (by decide)) (allI_cons (inI (by decide)) (allI_cons (inI (by decide)) allI_nil))))))))
      refine r_ix (.lst (.frz _)) er ?_
      k_state_short () "d"
      refine ⟨_, _, _, rfl, dw, by decide, fun t lt ut => ?_⟩
      generalize e5 : dS K (t__law_net_5 K sp_draw sp_wide sp_made_net) (InvN dl n m wide l h (i + 1)) QD (dS K (t__law_net_12 K sp_draw sp_wide sp_made_net) (fun x h' => QD D.non h') QD noP noP) (InvN dl n m wide l h (i + 1)) = C5
      k_state_short () "d"
      subst e5
      refine s_seq ?_
      generalize ea : dS K (t__law_net_4 K sp_draw sp_wide sp_made_net) (InvN dl n m wide l h (i + 1)) QD (dS K (t__law_net_12 K sp_draw sp_wide sp_made_net) (fun x h' => QD D.non h') QD noP noP) (InvN dl n m wide l h (i + 1)) = APP at app ⊢
      k_state_short () "d"
      · intro _
        k_state_short () "d"
        refine e_lstF ?_
        k_state_short () "d"
        refine ⟨_, _, _, rfl, dw, by decide, fun v v0 v1 => ?_⟩
        k_state_short () "d"
        refine ⟨_, _, _, rfl, dw, by decide, fun q2 lq2 uq2 => ?_⟩
        have e9 : (10 : Int) ^ Int.toNat 9 = 1000000000 := by decide
        have e6 : (10 : Int) ^ Int.toNat 6 = 1000000 := by decide
        obtain ⟨r2, f1, f2, f3⟩ := pickI (ds := [.int room, .int (10 ^ Int.toNat 9 - room), .int v]) (lo := 0) (hi := 1000000000) lq2 uq2 (allI_cons (inI ⟨er0, by omega⟩) (allI_cons (inI ⟨by omega, by omega⟩) (allI_cons (inI ⟨v0, by omega⟩) allI_nil)))
        refine r_ix (.lst (.frz _)) f1 ?_
        k_state_short () "d"
        refine e_lstF ?_
        k_state_short () "d"
        refine ⟨_, _, _, rfl, dw, by decide, fun v2 v20 v21 => ?_⟩
        k_state_short () "d"
        refine ⟨_, _, _, rfl, dw, by decide, fun q3 lq3 uq3 => ?_⟩
        obtain ⟨t2, g1, g2, g3⟩ := pickI (ds := [.int (1 + t), .int (10 ^ Int.toNat 6 - (1 + t)), .int (1 + v2)]) (lo := 1) (hi := 1000000) lq3 uq3 (allI_cons (inI ⟨by omega, by omega⟩) (allI_cons (inI ⟨by omega, by omega⟩) (allI_cons (inI ⟨by omega, by omega⟩) allI_nil)))
        refine r_ix (.lst (.frz _)) g1 ?_
        k_state_short () "d"
        exact app a b r2 t2 _ _ a0 a1 b0 b1 ne f2 f3 g2 g3
      · intro _
        k_state_short () "d"
        exact app a b room (1 + t) _ _ a0 a1 b0 b1 ne er0 (by omega) (by omega) (by omega)
    k_state_short () "d"
    refine ⟨_, _, _, rfl, dw, by omega, fun a la ua => ?_⟩
    k_state_short () "d"
    refine ⟨_, _, _, rfl, dw, by omega, fun r1 l1 u1 => ?_⟩
    generalize e8 : dS K (t__law_net_8 K sp_draw sp_wide sp_made_net) (InvN dl n m wide l h (i + 1)) QD (dS K (t__law_net_12 K sp_draw sp_wide sp_made_net) (fun x h' => QD D.non h') QD noP noP) (InvN dl n m wide l h (i + 1)) = C8_
    k_state_short () "d"
    subst e8
    refine s_seq ?_
    generalize ea : dS K (t__law_net_7 K sp_draw sp_wide sp_made_net) (InvN dl n m wide l h (i + 1)) QD (dS K (t__law_net_12 K sp_draw sp_wide sp_made_net) (fun x h' => QD D.non h') QD noP noP) (InvN dl n m wide l h (i + 1)) = RST at rest ⊢
    k_state_short () "d"
    have hb := mod_ne ⟨la, ua⟩ ⟨l1, u1⟩
    have hb0 : 0 ≤ (a + 1 + r1) % m := Int.emod_nonneg _ (by omega)
    have hb1 : (a + 1 + r1) % m < m := Int.emod_lt_of_pos _ (by omega)
    generalize (a + 1 + r1) % m = b at hb hb0 hb1
    refine ⟨_, _, _, rfl, dw, by decide, fun r2 l2 u2 => ?_⟩
    k_state_short () "d"
    · intro _
      k_state_short () "d"
      refine ⟨_, _, rfl, ?_⟩
      refine rest _ _ _ _ _ _ _ ?_ ?_ ?_ ?_ ?_ rfl
      all_goals (split <;> first | omega | (split <;> omega))
    · intro _
      k_state_short () "d"
      exact rest a b _ _ _ _ _ la ua hb0 hb1 hb rfl
  · rintro δ' h' ⟨ws, x7, x8, x9, x10, x11, x12, rfl, rfl, wz, ok⟩
    rw [rngD_len] at wz
    refine s_ret (e_letgo l ?_)
    k_state_short () "d"
    refine ⟨m, l, ws, rfl, du_same, hm, by omega, ok, ?_⟩
    show QD (netD m ws) (derase (dupd h l _) l)
    rw [de_dupd hl]
    exact k m ws hm (by omega) ok
end
end Lw
set_option maxHeartbeats 400000
namespace Lw
open PySem PySem.Spec PyProof.Rows L2 DL
local macro_rules | `(tactic| k_state_short () "kit") => `(tactic| first | exact kt_None_int | exact kt_bool_int | exact kt_int_int | exact kt_str_int | exact kt_list_int | exact kt_tuple_int | exact kt_None_bool | exact kt_bool_bool | exact kt_int_bool | exact kt_str_bool | exact kt_list_bool | exact kt_tuple_bool | exact kt_None_list | exact kt_bool_list | exact kt_int_list | exact kt_str_list | exact kt_list_list | exact kt_tuple_list | exact kt_None_tuple | exact kt_bool_tuple | exact kt_int_tuple | exact kt_str_tuple | exact kt_list_tuple | exact kt_tuple_tuple | exact kt_None_str | exact kt_bool_str | exact kt_int_str | exact kt_str_str | exact kt_list_str | exact kt_tuple_str | exact kit_int _ | exact kit_bool _ | exact kit_list _ | exact kit_tuple _ | exact kit_str _ | assumption)
local macro_rules | `(tactic| k_state_short () "look") => `(tactic| first | assumption | exact du_same | (refine (du_ne (by first | assumption | exact Ne.symm (by assumption))).trans ?_; k_state_short () "look"))
local macro_rules | `(tactic| k_state_short () "iss") => `(tactic| first | assumption | exact IsS.tup _ | exact IsS.lst (IsL.frz _) | exact IsS.lst (IsL.rd _) | exact IsS.lst (IsL.own (by k_state_short () "look")) )
local macro_rules | `(tactic| k_state_short () "isl") => `(tactic| first | assumption | exact IsL.frz _ | exact IsL.rd _ | exact IsL.own (by k_state_short () "look"))
local macro_rules | `(tactic| k_state_short () "ism") => `(tactic| first | exact IsM.frz _ | exact IsM.own (by k_state_short () "look"))
local macro_rules | `(tactic| k_state_short () "cmul") => `(tactic| first | exact Or.inl ⟨by omega, by omega⟩ | exact Or.inr ⟨by omega, by omega⟩)
local macro_rules | `(tactic| k_state_short () "tru") => `(tactic| first | exact Tru.bl _ | exact Tru.non | exact Tru.int _ | exact Tru.tup _ | exact Tru.lst (by k_state_short () "isl"))
local macro_rules | `(tactic| k_state_short () "tyn") => `(tactic| first | exact TyN.bl _ | exact TyN.non | exact TyN.int _ | exact TyN.str _ | exact TyN.tup _ | exact tyn_of (by assumption) | exact TyN.lst (by k_state_short () "isl"))
local macro_rules | `(tactic| k_state_short () "s1") => `(tactic| with_reducible first
  | refine s_seq ?_ | refine s_asg ?_ | refine s_if ?_ | refine s_ret ?_ | refine s_drop ?_ | refine s_retN ?_ | refine s_next ?_ | refine s_brk ?_ | refine s_cont ?_ | refine s_par ?_
  | refine x_seq ?_ | refine x_if ?_ | refine x_asg (ex_call ?_) | refine x_drop (ex_call ?_) | refine x_ret (ex_call ?_) | refine x_raise ?_ | refine x_of (s_asg ?_) | refine x_of (s_drop ?_) | refine x_of (s_ret ?_) | refine x_of (s_retN ?_) | refine x_of (s_next ?_))
local macro_rules | `(tactic| k_state_short () "e1") => `(tactic| first
  | with_reducible refine e_op ?_ | ((with_reducible refine' e_var ?k1 ?_); (case k1 => rfl)) | with_reducible refine e_int ?_ | with_reducible refine e_bl ?_ | with_reducible refine e_non ?_ | with_reducible refine e_str ?_ | with_reducible refine e_ty ?_ | with_reducible refine e_cls ?_ | with_reducible refine o_none ?_ | with_reducible refine o_some ?_
  | with_reducible refine e_tup ?_ | (with_reducible refine e_isi2 ?_) | with_reducible refine e_cb ?_ | with_reducible refine a_cons ?_ | with_reducible refine a_nil ?_ | with_reducible refine e_call ?_ | with_reducible refine e_then ?_
  | with_reducible refine e_if ?_ | with_reducible refine e_andT ?_ | with_reducible refine e_orT ?_ | with_reducible refine e_notT ?_ | with_reducible refine e_chain ?_
  | with_reducible refine t_test ?_ | with_reducible refine t_tru ?_ | with_reducible refine t_not ?_ | with_reducible refine t_and ?_ | with_reducible refine t_or ?_ | with_reducible refine t_yes ?_ | with_reducible refine i_seq ?_ | with_reducible refine i_rng1 ?_ | with_reducible refine i_rng2 ?_)
local macro_rules | `(tactic| k_state_short () "r1") => `(tactic| first
  | ((with_reducible refine' r_ix ?k1 ?k2 ?_); (case k1 => k_state_short () "iss"); (case k2 => rfl))
  | with_reducible refine r_addI ?_ | with_reducible refine r_subI ?_ | with_reducible refine r_ltI ?_ | with_reducible refine r_leI ?_ | with_reducible refine r_gtI ?_ | with_reducible refine r_geI ?_ | with_reducible refine r_eqII ?_ | with_reducible refine r_neII ?_ | with_reducible refine r_isN ?_ | with_reducible refine r_notN ?_ | with_reducible refine r_isB ?_ | with_reducible refine r_notB ?_
  | ((with_reducible refine' r_modI ?k1 ?_); (case k1 => first | omega | decide)) | ((with_reducible refine' r_divI ?k1 ?k2 ?_); (case k1 => first | omega | decide); (case k2 => first | omega | decide)) | ((with_reducible refine' r_mulI ?k1 ?_); (case k1 => k_state_short () "cmul")) | ((with_reducible refine' r_powI ?k1 ?_); (case k1 => decide))
  | ((with_reducible refine' c_lenX ?k1 ?_); (case k1 => k_state_short () "iss")) | with_reducible refine c_absX ?_ | with_reducible refine c_maxX ?_ | with_reducible refine c_minX ?_ | with_reducible refine c_intX ?_
  | ((with_reducible refine' c_isi ?k1 ?k2 ?_); (case k1 => k_state_short () "tyn"); (case k2 => k_state_short () "kit"))
  | ((with_reducible refine' u_tuple ?k1 ?_); (case k1 => k_state_short () "iss"))
  | ((with_reducible refine' c_isEC ?k1 ?k2 ?_); (case k1 => assumption); (case k2 => assumption)) | ((with_reducible refine' c_isET ?k1 ?k2 ?_); (case k1 => assumption); (case k2 => assumption))
  | with_reducible refine g_name ?_ | with_reducible refine g_setL ?_ | ((with_reducible refine' g_tup ?k1 ?_); (case k1 => rfl)) | with_reducible refine g_cons ?_ | with_reducible refine g_nil ?_)
local macro_rules | `(tactic| k_state_short () "x1") => `(tactic| first
  | ((with_reducible refine' ⟨_, _, _, _, rfl, rfl, ?k1, ?k2, ?_⟩); (case k1 => k_state_short () "look"); (case k2 => rfl))
  | ((with_reducible refine' ⟨_, _, _, ?k1, ?k2, ?k3, ?_⟩); (case k1 => k_state_short () "tyn"); (case k2 => k_state_short () "kit"); (case k3 => k_state_short () "kit"))
  | ((with_reducible refine' ⟨_, rfl, ?k1, ?_⟩); (case k1 => with_reducible (refine And.intro ?_ ?_) <;> omega))
  | with_reducible refine ⟨_, rfl, ?_⟩
  | ((with_reducible refine' ⟨_, ?k1, ?_⟩); (case k1 => k_state_short () "tru"))
  | with_reducible refine And.intro (fun (_ : true = true) => ?_) (fun (e : true = false) => Bool.noConfusion e) | with_reducible refine And.intro (fun (e : false = true) => Bool.noConfusion e) (fun (_ : false = false) => ?_)
  | with_reducible refine And.intro (fun (e : true = false) => Bool.noConfusion e) (fun (_ : true = true) => ?_) | with_reducible refine And.intro (fun (_ : false = false) => ?_) (fun (e : false = true) => Bool.noConfusion e)
  | with_reducible refine And.intro (fun (e : (!true) = true) => (nt_t e).elim) (fun (_ : (!true) = false) => ?_) | with_reducible refine And.intro (fun (_ : (!false) = true) => ?_) (fun (e : (!false) = false) => (nf_f e).elim)
  | with_reducible refine And.intro (fun (_ : (!true) = false) => ?_) (fun (e : (!true) = true) => (nt_t e).elim) | with_reducible refine And.intro (fun (e : (!false) = false) => (nf_f e).elim) (fun (_ : (!false) = true) => ?_)
  | ((with_reducible refine' and_r ?k1 ?_); (case k1 => decide)) | ((with_reducible refine' and_l ?k1 ?_); (case k1 => decide)) | ((with_reducible refine' dna_r ?k1 ?_); (case k1 => decide)) | ((with_reducible refine' dna_l ?k1 ?_); (case k1 => decide))
  | with_reducible refine @And.intro (_ = true → _) (_ = false → _) ?_ ?_ | with_reducible refine @And.intro (_ = false → _) (_ = true → _) ?_ ?_
  | (with_reducible refine And.intro ?k1 ?_; (case k1 => exact Nat.le_of_ble_eq_true rfl)))
local macro_rules | `(tactic| k_state_short () "gws") => `(tactic| first | exact gws_nil | (refine gws_cons gmono_name (gw_name (by decide)) ?_; k_state_short () "gws"))
local macro_rules | `(tactic| k_state_short () "gw") => `(tactic| first | exact gw_name (by decide) | (refine gw_tup ?_; k_state_short () "gws"))
local macro_rules | `(tactic| k_state_short () "d1") => `(tactic| first | k_state_short () "s1" | k_state_short () "e1" | k_state_short () "r1" | k_state_short () "x1")
local macro_rules | `(tactic| k_state_short () "d") => `(tactic| repeat k_state_short () "d1")
section
variable {K : PySem.W.Frag}
theorem iss_upd {h : DH} {x : D} {xs : List D} {l : Addr} {o : DO} (hx : IsS h x xs) (hl : h l = none) : IsS (dupd h l o) x xs := by
  cases hx with
  | tup => exact .tup _
  | lst g =>
    cases g with
    | frz => exact .lst (.frz _)
    | rd => exact .lst (.rd _)
    | own e => exact .lst (.own (by rw [du_ne (dne_none e hl)]; exact e))
theorem at_nat {α β : Type} {xs : List α} {f : α → β} {i : Nat} {a : α} (e : xs[i]? = some a) : atI (xs.map f) ((0 : Int) + (i : Int)) = some (f a) := by
  have hi : i < xs.length := (List.getElem?_eq_some_iff.mp e).1
  obtain ⟨d, e1, e2⟩ := at_in (xs := xs.map f) (n := (0 : Int) + (i : Int)) (by omega) (by rw [List.length_map]; omega)
  have : ((0 : Int) + (i : Int)).toNat = i := by omega
  rw [this, List.getElem?_map, e] at e2
  cases e2
  exact e1
def sp_due : DSp := fun ds h Q _ => ∃ (m : Int) (ws : List Way) (x y : D) (fs gs : List Int), ds = [netD m ws, x, y] ∧ IsS h x (fs.map D.int) ∧ IsS h y (gs.map D.int) ∧ ws.length ≤ 1000 ∧ fs.length = ws.length ∧ gs.length = ws.length ∧ Q (netD m (forthW fs ws ++ backW gs ws)) h
theorem pr_due : ∀ ds h QD QX, sp_due ds h QD QX → dB K (t__law_due K) N__law_due ds h QD := by
  rintro ds h QD QX ⟨m, ws, x, y, fs, gs, rfl, hx, hy, hz, l1, l2, k⟩
  unfold netD
  k_state_short () "d"
  refine e_lst ?_
  k_state_short () "d"
  intro l hl
  have lf : (forthW fs ws).length = ws.length := by unfold forthW; rw [List.length_zipWith]; omega
  have lb : (backW gs ws).length = ws.length := by unfold backW; rw [List.length_zipWith]; omega
  k_state_short () "d"
  refine s_for ?_
  k_state_short () "d"
  refine ⟨by rw [List.length_map]; constructor <;> omega, ?_⟩
  refine ⟨fun i δ' h' => ∃ (x4 x5 x6 x7 x8 : Option D), δ' = [some (netD m ws), some x, some y, some (.ref l), x4, x5, x6, x7, x8] ∧ h' = dupd h l (.lst (((forthW fs ws).take i).map Way.d)),
    ⟨none, none, none, none, none, rfl, rfl⟩, fun _ _ _ _ => trivial, ?_, ?_⟩
  · rintro i d δ' h' hd ⟨x4, x5, x6, x7, x8, rfl, rfl⟩
    obtain ⟨hi, rfl⟩ := rngD_get hd
    have hi2 : i < ws.length := by rw [List.length_map] at hi; omega
    obtain ⟨w, ew⟩ : ∃ w, ws[i]? = some w := ⟨_, List.getElem?_eq_getElem hi2⟩
    obtain ⟨f, ef⟩ : ∃ f, fs[i]? = some f := ⟨_, List.getElem?_eq_getElem (by omega)⟩
    have aw : atI (ws.map Way.d) ((0 : Int) + (i : Int)) = some w.d := at_nat ew
    have af : atI (fs.map D.int) ((0 : Int) + (i : Int)) = some (.int f) := at_nat ef
    unfold netD
    k_state_short () "d"
    refine r_ix (.tup _) aw ?_
    unfold Way.d
    k_state_short () "d"
    refine e_bmL ?_
    k_state_short () "d"
    refine ⟨_, .own du_same, ?_⟩
    k_state_short () "d"
    refine r_ix (iss_upd hx hl) af ?_
    k_state_short () "d"
    refine m_append du_same (by rw [List.length_map, List.length_take]; omega) ?_
    refine ⟨_, _, _, _, _, rfl, ?_⟩
    rw [du_du]
    have e : (forthW fs ws)[i]? = some ⟨w.a, w.b, f, w.t⟩ := by unfold forthW; rw [List.getElem?_zipWith, ef, ew]
    rw [List.take_add_one, e, List.map_append]
    rfl
  · rintro δ' h' ⟨x4, x5, x6, x7, x8, rfl, rfl⟩
    rw [rngD_len, List.length_map]
    have et : (forthW fs ws).take ((ws.length : Int) - 0).toNat = forthW fs ws := List.take_of_length_le (by omega)
    have et : (forthW fs ws).take ((ws.length : Int)).toNat = forthW fs ws := List.take_of_length_le (by omega)
    rw [et]
    unfold netD
    k_state_short () "d"
    refine s_for ?_
    k_state_short () "d"
    refine ⟨by rw [List.length_map]; constructor <;> omega, ?_⟩
    refine ⟨fun i δ' h' => ∃ (x4 x5 x6 x7 x8 : Option D), δ' = [some (netD m ws), some x, some y, some (.ref l), x4, x5, x6, x7, x8] ∧ h' = dupd h l (.lst ((forthW fs ws ++ (backW gs ws).take i).map Way.d)),
      ⟨x4, x5, x6, x7, x8, rfl, by rw [List.take_zero, List.append_nil]⟩, fun _ _ _ _ => trivial, ?_, ?_⟩
    · rintro i d δ' h' hd ⟨x4, x5, x6, x7, x8, rfl, rfl⟩
      obtain ⟨hi, rfl⟩ := rngD_get hd
      have hi2 : i < ws.length := by rw [List.length_map] at hi; omega
      obtain ⟨w, ew⟩ : ∃ w, ws[i]? = some w := ⟨_, List.getElem?_eq_getElem hi2⟩
      obtain ⟨f, ef⟩ : ∃ f, gs[i]? = some f := ⟨_, List.getElem?_eq_getElem (by omega)⟩
      have aw : atI (ws.map Way.d) ((0 : Int) + (i : Int)) = some w.d := at_nat ew
      have af : atI (gs.map D.int) ((0 : Int) + (i : Int)) = some (.int f) := at_nat ef
      unfold netD
      k_state_short () "d"
      refine r_ix (.tup _) aw ?_
      unfold Way.d
      k_state_short () "d"
      refine e_bmL ?_
      k_state_short () "d"
      refine ⟨_, .own du_same, ?_⟩
      k_state_short () "d"
      refine r_ix (iss_upd hy hl) af ?_
      k_state_short () "d"
      refine m_append du_same (by rw [List.length_map, List.length_append, List.length_take]; omega) ?_
      refine ⟨_, _, _, _, _, rfl, ?_⟩
      rw [du_du]
      have e : (backW gs ws)[i]? = some ⟨w.b, w.a, f, w.t⟩ := by unfold backW; rw [List.getElem?_zipWith, ef, ew]
      rw [List.take_add_one, e, ← List.append_assoc]
      simp only [List.map_append, List.append_assoc]
      rfl
    · rintro δ' h' ⟨x4, x5, x6, x7, x8, rfl, rfl⟩
      rw [rngD_len, List.length_map]
      have et : (backW gs ws).take ((ws.length : Int)).toNat = backW gs ws := List.take_of_length_le (by omega)
      rw [et]
      unfold netD
      refine s_ret (e_letgo l ?_)
      k_state_short () "d"
      rw [de_dupd hl]
      exact k
/-! ### a fault -/
def sp_bad : DSp := fun ds h Q _ => ∃ (dl : List D) (n m : Int) (ws : List Way) (fs : List Int), ds = [.lst dl, .int n, netD m ws, .tup (fs.map D.int)] ∧ Draws dl ∧ ws.length ≤ 6 ∧ forthB fs ws = true ∧
  ∀ gs : List Int, forthB gs ws = false → Q (.tup (gs.map D.int)) h
theorem bad_len {gs : List Int} {ws : List Way} (h : gs.length ≠ ws.length) : forthB gs ws = false := by
  cases q : forthB gs ws with
  | false => rfl
  | true => exact absurd (forth_len q) h
theorem bad_at : ∀ {gs : List Int} {ws : List Way} {i : Nat} {g : Int} {w : Way}, gs[i]? = some g → ws[i]? = some w → (g < 0 ∨ w.r < g) → forthB gs ws = false
  | [], _, i, _, _, e, _, _ => by simp at e
  | _ :: _, [], i, _, _, _, e, _ => by simp at e
  | g0 :: gs, w0 :: ws, 0, g, w, e1, e2, h => by
    simp at e1 e2; subst e1; subst e2
    show ((decide (0 ≤ g0) && decide (g0 ≤ w0.r)) && forthB gs ws) = false
    rcases h with h | h
    · rw [decide_eq_false (by omega : ¬ (0 ≤ g0))]; rfl
    · rw [decide_eq_false (by omega : ¬ (g0 ≤ w0.r)), Bool.and_false]; rfl
  | g0 :: gs, w0 :: ws, i + 1, g, w, e1, e2, h => by
    show ((decide (0 ≤ g0) && decide (g0 ≤ w0.r)) && forthB gs ws) = false
    rw [bad_at (i := i) (by simpa using e1) (by simpa using e2) h, Bool.and_false]
theorem cut_lo {ds : List D} {n : Int} (h0 : 0 ≤ n) (h1 : n ≤ ds.length) : DL.cutD ds none (some n) = ds.take n.toNat := by
  unfold DL.cutD
  show (ds.drop 0).take ((if n < 0 then (n + (ds.length : Int)).toNat else min n.toNat ds.length) - 0) = _
  rw [if_neg (by omega), List.drop_zero, Nat.sub_zero, Nat.min_eq_left (by omega)]
theorem cut_hi {ds : List D} {n : Int} (h0 : 0 ≤ n) (h1 : n ≤ ds.length) : DL.cutD ds (some n) none = ds.drop n.toNat := by
  unfold DL.cutD
  show (ds.drop (if n < 0 then (n + (ds.length : Int)).toNat else min n.toNat ds.length)).take (ds.length - (if n < 0 then (n + (ds.length : Int)).toNat else min n.toNat ds.length)) = _
  rw [if_neg (by omega), Nat.min_eq_left (by omega)]
  exact List.take_of_length_le (by rw [List.length_drop]; omega)
theorem lo_part {ds : List D} {n : Int} (h0 : 0 ≤ n) (h1 : n < ds.length) : ¬ (HT.sIx ds.length 0 none = 0 ∧ HT.sIx ds.length ds.length (some n) = ds.length) := by
  rintro ⟨_, e⟩
  have e2 : (if n < 0 then (n + (ds.length : Int)).toNat else min n.toNat ds.length) = ds.length := e
  rw [if_neg (by omega)] at e2
  omega
theorem hi_part {ds : List D} {n : Int} (h0 : 0 < n) (h1 : n ≤ ds.length) : ¬ (HT.sIx ds.length 0 (some n) = 0 ∧ HT.sIx ds.length ds.length none = ds.length) := by
  rintro ⟨e, _⟩
  have e2 : (if n < 0 then (n + (ds.length : Int)).toNat else min n.toNat ds.length) = 0 := e
  rw [if_neg (by omega)] at e2
  omega
theorem rep0 : ∀ k : Nat, (List.replicate k [D.int 0]).flatten = (List.replicate k (0 : Int)).map D.int
  | 0 => rfl
  | k + 1 => by rw [List.replicate_succ, List.replicate_succ, List.flatten_cons, rep0 k]; rfl
theorem u_negI {h : DH} {Q : DK} {n : Int} (q : Q (.int (-n)) h) : dU K (rU fun i => .int (-i)) (.int n) h Q := u_neg (g := fun i => .int (-i)) (fun _ => .int _) q
theorem pr_bad : ∀ ds h QD QX, sp_bad ds h QD QX → dB K (t__law_bad K sp_draw) N__law_bad ds h QD := by
  rintro ds h QD QX ⟨dl, n, m, ws, fs, rfl, dw, hz, hf, k⟩
  have hl := forth_len hf
  unfold netD
  k_state_short () "d"
  refine ⟨_, _, _, rfl, dw, by rw [List.length_map]; omega, fun spot s0 s1 => ?_⟩
  rw [List.length_map] at s1
  k_state_short () "d"
  refine ⟨_, _, _, rfl, dw, by decide, fun far f0 f1 => ?_⟩
  k_state_short () "d"
  · intro _
    k_state_short () "d"
    refine e_lstF ?_
    k_state_short () "d"
    refine r_addT (by rw [List.length_map]; simp; omega) ?_
    k_state_short () "d"
    refine r_mulT ⟨by omega, by omega⟩ (by simp) (by decide) ?_
    rw [rep0]
    refine r_addT (by rw [List.length_map, List.length_map, List.length_replicate]; omega) ?_
    k_state_short () "d"
    obtain ⟨d, e1, e2⟩ := at_in (xs := [D.tup (fs.map D.int ++ [.int 0]), D.tup (fs.map D.int ++ (List.replicate (1 + far % 7).toNat (0 : Int)).map D.int)]) (n := far % 2) (by omega) (by show far % 2 < 2; omega)
    refine r_ix (.lst (.frz _)) e1 ?_
    rcases List.mem_cons.mp (List.mem_of_getElem? e2) with rfl | w
    · have := k (fs ++ [0]) (bad_len (by rw [List.length_append]; simp; omega))
      rw [List.map_append] at this
      exact this
    · cases List.mem_singleton.mp w
      have := k (fs ++ List.replicate (1 + far % 7).toNat 0) (bad_len (by rw [List.length_append, List.length_replicate]; omega))
      rw [List.map_append] at this
      exact this
  · intro hb
    rw [List.length_map] at hb
    have hb := of_decide_eq_false hb
    have sl : spot < fs.length := by omega
    obtain ⟨w, ew⟩ : ∃ w, ws[spot.toNat]? = some w := ⟨_, List.getElem?_eq_getElem (by omega)⟩
    have aw : atI (ws.map Way.d) spot = some w.d := by
      have := at_nat (f := Way.d) ew
      have e : ((0 : Int) + (spot.toNat : Int)) = spot := by omega
      rw [e] at this; exact this
    have clo := cut_lo (ds := fs.map D.int) (n := spot) s0 (by rw [List.length_map]; omega)
    have chi := cut_hi (ds := fs.map D.int) (n := spot + 1) (by omega) (by rw [List.length_map]; omega)
    k_state_short () "d"
    refine r_ix (.tup _) aw ?_
    unfold Way.d
    k_state_short () "d"
    refine e_lstF ?_
    refine a_cons (e_un (e_int (u_negI ?_)))
    k_state_short () "d"
    refine e_un (e_int (u_negI ?_))
    k_state_short () "d"
    refine ⟨_, _, _, rfl, dw, by decide, fun q lq uq => ?_⟩
    obtain ⟨g, eg, og⟩ : ∃ g : Int, atI [D.int (-1), D.int (w.r + 1), D.int (-1 - far), D.int (w.r + 1 + far)] q = some (.int g) ∧ (g < 0 ∨ w.r < g) := by
      obtain ⟨d, e1, e2⟩ := at_in (xs := [D.int (-1), D.int (w.r + 1), D.int (-1 - far), D.int (w.r + 1 + far)]) (n := q) lq (by show q < 4; omega)
      have : ∀ d ∈ [D.int (-1), D.int (w.r + 1), D.int (-1 - far), D.int (w.r + 1 + far)], ∃ g : Int, d = .int g ∧ (g < 0 ∨ w.r < g) :=
        allI_cons ⟨_, rfl, by omega⟩ (allI_cons ⟨_, rfl, by omega⟩ (allI_cons ⟨_, rfl, by omega⟩ (allI_cons ⟨_, rfl, by omega⟩ allI_nil)))
      obtain ⟨g, rfl, og⟩ := this d (List.mem_of_getElem? e2)
      exact ⟨g, e1, og⟩
    refine r_ix (.lst (.frz _)) eg ?_
    k_state_short () "d"
    refine ⟨_, _, _, rfl, dw, by decide, fun t lt ut => ?_⟩
    have tl : (fs.take spot.toNat).length = spot.toNat := by rw [List.length_take]; omega
    have ls : (D.int g :: []).length = 1 := rfl
    have lm : (fs.map D.int).length = fs.length := List.length_map _
    k_state_short () "d"
    · intro _
      k_state_short () "d"
      refine e_slT ?_
      with_reducible refine e_var rfl (o_none (o_some (e_var rfl ⟨_, rfl, ⟨_, rfl, lo_part s0 (by omega), ?_⟩⟩)))
      rw [clo]
      refine e_slT ?_
      k_state_short () "d"
      rw [chi]
      refine ⟨hi_part (by omega) (by omega), ?_⟩
      refine r_addT (ds := (fs.map D.int).take spot.toNat) (es := (fs.map D.int).drop (spot + 1).toNat) (by rw [List.length_take, List.length_drop]; omega) ?_
      have := k (fs.take spot.toNat ++ fs.drop (spot + 1).toNat) (bad_len (by rw [List.length_append, List.length_take, List.length_drop]; omega))
      rw [List.map_append, List.map_take, List.map_drop] at this
      exact this
    · intro _
      k_state_short () "d"
      refine e_slT ?_
      with_reducible refine e_var rfl (o_none (o_some (e_var rfl ⟨_, rfl, ⟨_, rfl, lo_part s0 (by omega), ?_⟩⟩)))
      rw [clo]
      k_state_short () "d"
      refine r_addT (ds := (fs.map D.int).take spot.toNat) (es := [.int g]) (by rw [List.length_take, ls]; omega) ?_
      refine e_slT ?_
      k_state_short () "d"
      rw [chi]
      refine ⟨hi_part (by omega) (by omega), ?_⟩
      refine r_addT (ds := (fs.map D.int).take spot.toNat ++ [.int g]) (es := (fs.map D.int).drop (spot + 1).toNat) (by rw [List.length_append, List.length_take, List.length_drop, ls]; omega) ?_
      have := k (fs.take spot.toNat ++ [g] ++ fs.drop (spot + 1).toNat) (bad_at (i := spot.toNat) (g := g) (by
        rw [List.append_assoc, List.getElem?_append_right (by omega), tl, Nat.sub_self]; rfl) ew og)
      rw [List.map_append, List.map_append, List.map_take, List.map_drop] at this
      exact this
/-! ### more ways than may be turned -/
def sp_wider : DSp := fun ds h Q _ => ∃ (dl : List D) (m : Int) (ws : List Way), ds = [.lst dl, netD m ws] ∧ Draws dl ∧ (2 ≤ m ∧ m ≤ 6) ∧ ws.length ≤ 6 ∧ (∀ w ∈ ws, Way.ok m w) ∧ ∀ vs, 6 < vs.length → vs.length ≤ 12 → Q (netD m vs) h
theorem pr_wider : ∀ ds h QD QX, sp_wider ds h QD QX → dB K (t__law_wider K sp_draw sp_made_net) N__law_wider ds h QD := by
  rintro ds h QD QX ⟨dl, m, ws, rfl, dw, hm, hz, ok, k⟩
  k_state_short () "d"
  refine ⟨_, _, _, rfl, dw, by decide, fun r l0 u0 => ?_⟩
  unfold netD
  k_state_short () "d"
  refine c_list (.tup _) ?_
  intro l hl
  k_state_short () "d"
  refine s_while (fun j δ' h' => ∃ vs : List Way, δ' = [some (.lst dl), some (netD m ws), some (.int (7 + r)), some (.ref l)] ∧ h' = dupd h l (.lst (vs.map Way.d)) ∧ vs.length + j = (7 + r).toNat ∧ ∀ w ∈ vs, w.ok m)
    ⟨(7 + r).toNat - ws.length, ws, rfl, rfl, by omega, ok⟩ ?_
  rintro j δ' h' ⟨vs, rfl, rfl, vz, vo⟩
  k_state_short () "d"
  · intro hb
    have hb := of_decide_eq_true hb
    rw [List.length_map] at hb
    unfold netD
    k_state_short () "d"
    refine e_bmL ?_
    k_state_short () "d"
    refine ⟨_, .own du_same, ?_⟩
    k_state_short () "d"
    refine m_append du_same (by rw [List.length_map]; omega) ?_
    refine ⟨j - 1, by omega, vs ++ [⟨0, m - 1, vs.length, 1 + vs.length⟩], rfl, ?_, by rw [List.length_append]; simp; omega, fun v hv => ?_⟩
    · rw [du_du, List.map_append, List.length_map]; rfl
    · rcases List.mem_append.mp hv with q | q
      · exact vo v q
      · cases List.mem_singleton.mp q
        exact ⟨⟨Int.le_refl _, by show (0 : Int) ≤ m - 1; omega⟩, ⟨by show (0 : Int) ≤ m - 1; omega, Int.le_refl _⟩, by show (0 : Int) ≠ m - 1; omega, ⟨by show (0 : Int) ≤ vs.length; omega, by show (vs.length : Int) ≤ 1000000000; omega⟩, by show (1 : Int) ≤ 1 + vs.length; omega, by show (1 : Int) + vs.length ≤ 1000000; omega⟩
  · intro hb
    have hb := of_decide_eq_false hb
    rw [List.length_map] at hb
    refine s_ret (e_letgo l ?_)
    unfold netD
    k_state_short () "d"
    refine ⟨m, l, vs, rfl, du_same, hm, by omega, vo, ?_⟩
    show QD (netD m vs) (derase (dupd h l _) l)
    rw [de_dupd hl]
    exact k vs (by omega) (by omega)
end
end Lw
set_option maxHeartbeats 400000
namespace Lw
open PySem PySem.Spec PyProof.Rows L2 DL
local macro_rules | `(tactic| k_state_short () "kit") => `(tactic| first | exact kt_None_int | exact kt_bool_int | exact kt_int_int | exact kt_str_int | exact kt_list_int | exact kt_tuple_int | exact kt_None_bool | exact kt_bool_bool | exact kt_int_bool | exact kt_str_bool | exact kt_list_bool | exact kt_tuple_bool | exact kt_None_list | exact kt_bool_list | exact kt_int_list | exact kt_str_list | exact kt_list_list | exact kt_tuple_list | exact kt_None_tuple | exact kt_bool_tuple | exact kt_int_tuple | exact kt_str_tuple | exact kt_list_tuple | exact kt_tuple_tuple | exact kt_None_str | exact kt_bool_str | exact kt_int_str | exact kt_str_str | exact kt_list_str | exact kt_tuple_str | exact kit_int _ | exact kit_bool _ | exact kit_list _ | exact kit_tuple _ | exact kit_str _ | assumption)
local macro_rules | `(tactic| k_state_short () "look") => `(tactic| first | assumption | exact du_same | (refine (du_ne (by first | assumption | exact Ne.symm (by assumption))).trans ?_; k_state_short () "look"))
local macro_rules | `(tactic| k_state_short () "iss") => `(tactic| first | assumption | exact IsS.tup _ | exact IsS.lst (IsL.frz _) | exact IsS.lst (IsL.rd _) | exact IsS.lst (IsL.own (by k_state_short () "look")) )
local macro_rules | `(tactic| k_state_short () "isl") => `(tactic| first | assumption | exact IsL.frz _ | exact IsL.rd _ | exact IsL.own (by k_state_short () "look"))
local macro_rules | `(tactic| k_state_short () "ism") => `(tactic| first | exact IsM.frz _ | exact IsM.own (by k_state_short () "look"))
local macro_rules | `(tactic| k_state_short () "cmul") => `(tactic| first | exact Or.inl ⟨by omega, by omega⟩ | exact Or.inr ⟨by omega, by omega⟩)
local macro_rules | `(tactic| k_state_short () "tru") => `(tactic| first | exact Tru.bl _ | exact Tru.non | exact Tru.int _ | exact Tru.tup _ | exact Tru.lst (by k_state_short () "isl"))
local macro_rules | `(tactic| k_state_short () "tyn") => `(tactic| first | exact TyN.bl _ | exact TyN.non | exact TyN.int _ | exact TyN.str _ | exact TyN.tup _ | exact tyn_of (by assumption) | exact TyN.lst (by k_state_short () "isl"))
local macro_rules | `(tactic| k_state_short () "s1") => `(tactic| with_reducible first
  | refine s_seq ?_ | refine s_asg ?_ | refine s_if ?_ | refine s_ret ?_ | refine s_drop ?_ | refine s_retN ?_ | refine s_next ?_ | refine s_brk ?_ | refine s_cont ?_ | refine s_par ?_
  | refine x_seq ?_ | refine x_if ?_ | refine x_asg (ex_call ?_) | refine x_drop (ex_call ?_) | refine x_ret (ex_call ?_) | refine x_raise ?_ | refine x_of (s_asg ?_) | refine x_of (s_drop ?_) | refine x_of (s_ret ?_) | refine x_of (s_retN ?_) | refine x_of (s_next ?_))
local macro_rules | `(tactic| k_state_short () "e1") => `(tactic| first
  | with_reducible refine e_op ?_ | ((with_reducible refine' e_var ?k1 ?_); (case k1 => rfl)) | with_reducible refine e_int ?_ | with_reducible refine e_bl ?_ | with_reducible refine e_non ?_ | with_reducible refine e_str ?_ | with_reducible refine e_ty ?_ | with_reducible refine e_cls ?_ | with_reducible refine o_none ?_ | with_reducible refine o_some ?_
  | with_reducible refine e_tup ?_ | (with_reducible refine e_isi2 ?_) | with_reducible refine e_cb ?_ | with_reducible refine a_cons ?_ | with_reducible refine a_nil ?_ | with_reducible refine e_call ?_ | with_reducible refine e_then ?_
  | with_reducible refine e_if ?_ | with_reducible refine e_andT ?_ | with_reducible refine e_orT ?_ | with_reducible refine e_notT ?_ | with_reducible refine e_chain ?_
  | with_reducible refine t_test ?_ | with_reducible refine t_tru ?_ | with_reducible refine t_not ?_ | with_reducible refine t_and ?_ | with_reducible refine t_or ?_ | with_reducible refine t_yes ?_ | with_reducible refine i_seq ?_ | with_reducible refine i_rng1 ?_ | with_reducible refine i_rng2 ?_)
local macro_rules | `(tactic| k_state_short () "r1") => `(tactic| first
  | ((with_reducible refine' r_ix ?k1 ?k2 ?_); (case k1 => k_state_short () "iss"); (case k2 => rfl))
  | with_reducible refine r_addI ?_ | with_reducible refine r_subI ?_ | with_reducible refine r_ltI ?_ | with_reducible refine r_leI ?_ | with_reducible refine r_gtI ?_ | with_reducible refine r_geI ?_ | with_reducible refine r_eqII ?_ | with_reducible refine r_neII ?_ | with_reducible refine r_isN ?_ | with_reducible refine r_notN ?_ | with_reducible refine r_isB ?_ | with_reducible refine r_notB ?_
  | ((with_reducible refine' r_modI ?k1 ?_); (case k1 => first | omega | decide)) | ((with_reducible refine' r_divI ?k1 ?k2 ?_); (case k1 => first | omega | decide); (case k2 => first | omega | decide)) | ((with_reducible refine' r_mulI ?k1 ?_); (case k1 => k_state_short () "cmul")) | ((with_reducible refine' r_powI ?k1 ?_); (case k1 => decide))
  | ((with_reducible refine' c_lenX ?k1 ?_); (case k1 => k_state_short () "iss")) | with_reducible refine c_absX ?_ | with_reducible refine c_maxX ?_ | with_reducible refine c_minX ?_ | with_reducible refine c_intX ?_
  | ((with_reducible refine' c_isi ?k1 ?k2 ?_); (case k1 => k_state_short () "tyn"); (case k2 => k_state_short () "kit"))
  | ((with_reducible refine' u_tuple ?k1 ?_); (case k1 => k_state_short () "iss"))
  | ((with_reducible refine' c_isEC ?k1 ?k2 ?_); (case k1 => assumption); (case k2 => assumption)) | ((with_reducible refine' c_isET ?k1 ?k2 ?_); (case k1 => assumption); (case k2 => assumption))
  | with_reducible refine g_name ?_ | with_reducible refine g_setL ?_ | ((with_reducible refine' g_tup ?k1 ?_); (case k1 => rfl)) | with_reducible refine g_cons ?_ | with_reducible refine g_nil ?_)
local macro_rules | `(tactic| k_state_short () "x1") => `(tactic| first
  | ((with_reducible refine' ⟨_, _, _, _, rfl, rfl, ?k1, ?k2, ?_⟩); (case k1 => k_state_short () "look"); (case k2 => rfl))
  | ((with_reducible refine' ⟨_, _, _, ?k1, ?k2, ?k3, ?_⟩); (case k1 => k_state_short () "tyn"); (case k2 => k_state_short () "kit"); (case k3 => k_state_short () "kit"))
  | ((with_reducible refine' ⟨_, rfl, ?k1, ?_⟩); (case k1 => with_reducible (refine And.intro ?_ ?_) <;> omega))
  | with_reducible refine ⟨_, rfl, ?_⟩
  | ((with_reducible refine' ⟨_, ?k1, ?_⟩); (case k1 => k_state_short () "tru"))
  | with_reducible refine And.intro (fun (_ : true = true) => ?_) (fun (e : true = false) => Bool.noConfusion e) | with_reducible refine And.intro (fun (e : false = true) => Bool.noConfusion e) (fun (_ : false = false) => ?_)
  | with_reducible refine And.intro (fun (e : true = false) => Bool.noConfusion e) (fun (_ : true = true) => ?_) | with_reducible refine And.intro (fun (_ : false = false) => ?_) (fun (e : false = true) => Bool.noConfusion e)
  | with_reducible refine And.intro (fun (e : (!true) = true) => (nt_t e).elim) (fun (_ : (!true) = false) => ?_) | with_reducible refine And.intro (fun (_ : (!false) = true) => ?_) (fun (e : (!false) = false) => (nf_f e).elim)
  | with_reducible refine And.intro (fun (_ : (!true) = false) => ?_) (fun (e : (!true) = true) => (nt_t e).elim) | with_reducible refine And.intro (fun (e : (!false) = false) => (nf_f e).elim) (fun (_ : (!false) = true) => ?_)
  | ((with_reducible refine' and_r ?k1 ?_); (case k1 => decide)) | ((with_reducible refine' and_l ?k1 ?_); (case k1 => decide)) | ((with_reducible refine' dna_r ?k1 ?_); (case k1 => decide)) | ((with_reducible refine' dna_l ?k1 ?_); (case k1 => decide))
  | with_reducible refine @And.intro (_ = true → _) (_ = false → _) ?_ ?_ | with_reducible refine @And.intro (_ = false → _) (_ = true → _) ?_ ?_
  | (with_reducible refine And.intro ?k1 ?_; (case k1 => exact Nat.le_of_ble_eq_true rfl)))
local macro_rules | `(tactic| k_state_short () "gws") => `(tactic| first | exact gws_nil | (refine gws_cons gmono_name (gw_name (by decide)) ?_; k_state_short () "gws"))
local macro_rules | `(tactic| k_state_short () "gw") => `(tactic| first | exact gw_name (by decide) | (refine gw_tup ?_; k_state_short () "gws"))
local macro_rules | `(tactic| k_state_short () "d1") => `(tactic| first | k_state_short () "s1" | k_state_short () "e1" | k_state_short () "r1" | k_state_short () "x1")
local macro_rules | `(tactic| k_state_short () "d") => `(tactic| repeat k_state_short () "d1")
abbrev cA (K : PySem.W.Frag) (x : Str) : Addr := He.ga K x
structure Exs1 (K : PySem.W.Frag) (D : Addr) (b1 b2 : Bool) : Prop where
  e : ExcC K D
  x : PySem.W.exmOne K (.ref D) (.ref (He.ga K "HaulError")) = some true
  k1 : PySem.W.kitOne K (.ref D) (.ref (He.ga K "TooMany")) = some b1
  k2 : PySem.W.kitOne K (.ref D) (.ref (He.ga K "TooMuch")) = some b2
  k3 : PySem.W.kitOne K (.ref D) (.ref (He.ga K "NoWay")) = some false
  k4 : PySem.W.kitOne K (.ref D) (.ref (He.ga K "BadHour")) = some false
  kv : PySem.W.kitOne K (.ref D) (.type "ValueError") = some true
structure Exs (K : PySem.W.Frag) : Prop where
  many : Exs1 K (He.ga K "TooMany") true false
  much : Exs1 K (He.ga K "TooMuch") false true
section
variable {K : PySem.W.Frag}
def sp_heard : DSp := fun ds h Q _ => ∃ (m : Int) (ws : List Way) (fs : List Int) (k : Int) (s : Str), ds = [netD m ws, .tup (fs.map D.int), .int k] ∧ ws.length ≤ 1000 ∧
  ((ws.length ≤ 6 ∧ forthB fs ws = false ∧ k = 1 ∧ s = "much") ∨ (6 < ws.length ∧ (k = 0 ∨ k = 1 ∨ k = 2 ∨ k = 3) ∧ s = "many")) ∧ Q (.str s) h
theorem pr_heard (X : Exs K) : ∀ ds h QD QX, sp_heard ds h QD QX → dB K (t__law_heard K (sp_open K) (sp_laned K) (sp_best K) (sp_fright K)) N__law_heard ds h QD := by
  rintro ds h QD QX ⟨m, ws, fs, k, s, rfl, hz, c, q⟩
  k_state_short () "d"
  refine s_try (fun W => ?_)
  rcases c with ⟨h6, hf, rfl, rfl⟩ | ⟨h6, hk, rfl⟩
  · k_state_short () "d"
    refine ⟨_, _, _, rfl, hz, fun _ e => absurd (hf.symm.trans e) Bool.false_ne_true, fun _ _ => ?_, fun e => absurd e (by omega)⟩
    refine ⟨X.much.x, fun a => ?_⟩
    obtain ⟨x0, _, x1, x2, x3, x4, x5⟩ := X.much
    k_state_short () "d"
    refine e_lstF ?_
    k_state_short () "d"
    refine e_bmL ?_
    k_state_short () "d"
    refine ⟨_, .frz _, ?_⟩
    k_state_short () "d"
    refine m_count (.frz _) rfl rfl ?_
    k_state_short () "d"
    refine e_lstF ?_
    k_state_short () "d"
    refine e_bmL ?_
    k_state_short () "d"
    refine ⟨_, .frz _, ?_⟩
    k_state_short () "d"
    refine m_index (j := 1) (z := .bl true) (.frz _) rfl rfl rfl rfl (fun m z hm e => by cases Nat.lt_one_iff.mp hm; cases e; rfl) ?_
    k_state_short () "d"
    exact q
  · rcases hk with rfl | rfl | rfl | rfl
    · k_state_short () "d"
      refine ⟨_, _, rfl, hz, fun e => absurd e (by omega), fun _ => ?_⟩
      refine ⟨X.many.x, fun a => ?_⟩
      obtain ⟨x0, _, x1, x2, x3, x4, x5⟩ := X.many
      k_state_short () "d"
      refine e_lstF ?_
      k_state_short () "d"
      refine e_bmL ?_
      k_state_short () "d"
      refine ⟨_, .frz _, ?_⟩
      k_state_short () "d"
      refine m_count (.frz _) rfl rfl ?_
      k_state_short () "d"
      refine e_lstF ?_
      k_state_short () "d"
      refine e_bmL ?_
      k_state_short () "d"
      refine ⟨_, .frz _, ?_⟩
      k_state_short () "d"
      refine m_index (j := 0) (z := .bl true) (.frz _) rfl rfl rfl rfl (fun m z hm e => absurd hm (Nat.not_lt_zero _)) ?_
      k_state_short () "d"
      exact q
    · k_state_short () "d"
      refine ⟨_, _, _, rfl, hz, fun e => absurd e (by omega), fun e => absurd e (by omega), fun _ => ?_⟩
      refine ⟨X.many.x, fun a => ?_⟩
      obtain ⟨x0, _, x1, x2, x3, x4, x5⟩ := X.many
      k_state_short () "d"
      refine e_lstF ?_
      k_state_short () "d"
      refine e_bmL ?_
      k_state_short () "d"
      refine ⟨_, .frz _, ?_⟩
      k_state_short () "d"
      refine m_count (.frz _) rfl rfl ?_
      k_state_short () "d"
      refine e_lstF ?_
      k_state_short () "d"
      refine e_bmL ?_
      k_state_short () "d"
      refine ⟨_, .frz _, ?_⟩
      k_state_short () "d"
      refine m_index (j := 0) (z := .bl true) (.frz _) rfl rfl rfl rfl (fun m z hm e => absurd hm (Nat.not_lt_zero _)) ?_
      k_state_short () "d"
      exact q
    · k_state_short () "d"
      refine ⟨_, _, _, rfl, hz, h6, ?_⟩
      refine ⟨X.many.x, fun a => ?_⟩
      obtain ⟨x0, _, x1, x2, x3, x4, x5⟩ := X.many
      k_state_short () "d"
      refine e_lstF ?_
      k_state_short () "d"
      refine e_bmL ?_
      k_state_short () "d"
      refine ⟨_, .frz _, ?_⟩
      k_state_short () "d"
      refine m_count (.frz _) rfl rfl ?_
      k_state_short () "d"
      refine e_lstF ?_
      k_state_short () "d"
      refine e_bmL ?_
      k_state_short () "d"
      refine ⟨_, .frz _, ?_⟩
      k_state_short () "d"
      refine m_index (j := 0) (z := .bl true) (.frz _) rfl rfl rfl rfl (fun m z hm e => absurd hm (Nat.not_lt_zero _)) ?_
      k_state_short () "d"
      exact q
    · k_state_short () "d"
      refine ⟨_, _, _, _, rfl, hz, fun e => absurd e (by omega), fun e => absurd e (by omega), fun _ => ?_⟩
      refine ⟨X.many.x, fun a => ?_⟩
      obtain ⟨x0, _, x1, x2, x3, x4, x5⟩ := X.many
      k_state_short () "d"
      refine e_lstF ?_
      k_state_short () "d"
      refine e_bmL ?_
      k_state_short () "d"
      refine ⟨_, .frz _, ?_⟩
      k_state_short () "d"
      refine m_count (.frz _) rfl rfl ?_
      k_state_short () "d"
      refine e_lstF ?_
      k_state_short () "d"
      refine e_bmL ?_
      k_state_short () "d"
      refine ⟨_, .frz _, ?_⟩
      k_state_short () "d"
      refine m_index (j := 0) (z := .bl true) (.frz _) rfl rfl rfl rfl (fun m z hm e => absurd hm (Nat.not_lt_zero _)) ?_
      k_state_short () "d"
      exact q
end
end Lw
set_option maxHeartbeats 400000
namespace Lw
open PySem PySem.Spec PyProof.Rows L2 DL
local macro_rules | `(tactic| k_state_short () "kit") => `(tactic| first | exact kt_None_int | exact kt_bool_int | exact kt_int_int | exact kt_str_int | exact kt_list_int | exact kt_tuple_int | exact kt_None_bool | exact kt_bool_bool | exact kt_int_bool | exact kt_str_bool | exact kt_list_bool | exact kt_tuple_bool | exact kt_None_list | exact kt_bool_list | exact kt_int_list | exact kt_str_list | exact kt_list_list | exact kt_tuple_list | exact kt_None_tuple | exact kt_bool_tuple | exact kt_int_tuple | exact kt_str_tuple | exact kt_list_tuple | exact kt_tuple_tuple | exact kt_None_str | exact kt_bool_str | exact kt_int_str | exact kt_str_str | exact kt_list_str | exact kt_tuple_str | exact kit_int _ | exact kit_bool _ | exact kit_list _ | exact kit_tuple _ | exact kit_str _ | assumption)
local macro_rules | `(tactic| k_state_short () "look") => `(tactic| first | assumption | exact du_same | (refine (du_ne (by first | assumption | exact Ne.symm (by assumption))).trans ?_; k_state_short () "look"))
local macro_rules | `(tactic| k_state_short () "iss") => `(tactic| first | assumption | exact IsS.tup _ | exact IsS.lst (IsL.frz _) | exact IsS.lst (IsL.rd _) | exact IsS.lst (IsL.own (by k_state_short () "look")) )
local macro_rules | `(tactic| k_state_short () "isl") => `(tactic| first | assumption | exact IsL.frz _ | exact IsL.rd _ | exact IsL.own (by k_state_short () "look"))
local macro_rules | `(tactic| k_state_short () "ism") => `(tactic| first | exact IsM.frz _ | exact IsM.own (by k_state_short () "look"))
local macro_rules | `(tactic| k_state_short () "cmul") => `(tactic| first | exact Or.inl ⟨by omega, by omega⟩ | exact Or.inr ⟨by omega, by omega⟩)
local macro_rules | `(tactic| k_state_short () "tru") => `(tactic| first | exact Tru.bl _ | exact Tru.non | exact Tru.int _ | exact Tru.tup _ | exact Tru.lst (by k_state_short () "isl"))
local macro_rules | `(tactic| k_state_short () "tyn") => `(tactic| first | exact TyN.bl _ | exact TyN.non | exact TyN.int _ | exact TyN.str _ | exact TyN.tup _ | exact tyn_of (by assumption) | exact TyN.lst (by k_state_short () "isl"))
local macro_rules | `(tactic| k_state_short () "s1") => `(tactic| with_reducible first
  | refine s_seq ?_ | refine s_asg ?_ | refine s_if ?_ | refine s_ret ?_ | refine s_drop ?_ | refine s_retN ?_ | refine s_next ?_ | refine s_brk ?_ | refine s_cont ?_ | refine s_par ?_
  | refine x_seq ?_ | refine x_if ?_ | refine x_asg (ex_call ?_) | refine x_drop (ex_call ?_) | refine x_ret (ex_call ?_) | refine x_raise ?_ | refine x_of (s_asg ?_) | refine x_of (s_drop ?_) | refine x_of (s_ret ?_) | refine x_of (s_retN ?_) | refine x_of (s_next ?_))
local macro_rules | `(tactic| k_state_short () "e1") => `(tactic| first
  | with_reducible refine e_op ?_ | ((with_reducible refine' e_var ?k1 ?_); (case k1 => rfl)) | with_reducible refine e_int ?_ | with_reducible refine e_bl ?_ | with_reducible refine e_non ?_ | with_reducible refine e_str ?_ | with_reducible refine e_ty ?_ | with_reducible refine e_cls ?_ | with_reducible refine o_none ?_ | with_reducible refine o_some ?_
  | with_reducible refine e_tup ?_ | (with_reducible refine e_isi2 ?_) | with_reducible refine e_cb ?_ | with_reducible refine a_cons ?_ | with_reducible refine a_nil ?_ | with_reducible refine e_call ?_ | with_reducible refine e_then ?_
  | with_reducible refine e_if ?_ | with_reducible refine e_andT ?_ | with_reducible refine e_orT ?_ | with_reducible refine e_notT ?_ | with_reducible refine e_chain ?_
  | with_reducible refine t_test ?_ | with_reducible refine t_tru ?_ | with_reducible refine t_not ?_ | with_reducible refine t_and ?_ | with_reducible refine t_or ?_ | with_reducible refine t_yes ?_ | with_reducible refine i_seq ?_ | with_reducible refine i_rng1 ?_ | with_reducible refine i_rng2 ?_)
local macro_rules | `(tactic| k_state_short () "r1") => `(tactic| first
  | ((with_reducible refine' r_ix ?k1 ?k2 ?_); (case k1 => k_state_short () "iss"); (case k2 => rfl))
  | with_reducible refine r_addI ?_ | with_reducible refine r_subI ?_ | with_reducible refine r_ltI ?_ | with_reducible refine r_leI ?_ | with_reducible refine r_gtI ?_ | with_reducible refine r_geI ?_ | with_reducible refine r_eqII ?_ | with_reducible refine r_neII ?_ | with_reducible refine r_isN ?_ | with_reducible refine r_notN ?_ | with_reducible refine r_isB ?_ | with_reducible refine r_notB ?_
  | ((with_reducible refine' r_modI ?k1 ?_); (case k1 => first | omega | decide)) | ((with_reducible refine' r_divI ?k1 ?k2 ?_); (case k1 => first | omega | decide); (case k2 => first | omega | decide)) | ((with_reducible refine' r_mulI ?k1 ?_); (case k1 => k_state_short () "cmul")) | ((with_reducible refine' r_powI ?k1 ?_); (case k1 => decide))
  | ((with_reducible refine' c_lenX ?k1 ?_); (case k1 => k_state_short () "iss")) | with_reducible refine c_absX ?_ | with_reducible refine c_maxX ?_ | with_reducible refine c_minX ?_ | with_reducible refine c_intX ?_
  | ((with_reducible refine' c_isi ?k1 ?k2 ?_); (case k1 => k_state_short () "tyn"); (case k2 => k_state_short () "kit"))
  | ((with_reducible refine' u_tuple ?k1 ?_); (case k1 => k_state_short () "iss"))
  | ((with_reducible refine' c_isEC ?k1 ?k2 ?_); (case k1 => assumption); (case k2 => assumption)) | ((with_reducible refine' c_isET ?k1 ?k2 ?_); (case k1 => assumption); (case k2 => assumption))
  | with_reducible refine g_name ?_ | with_reducible refine g_setL ?_ | ((with_reducible refine' g_tup ?k1 ?_); (case k1 => rfl)) | with_reducible refine g_cons ?_ | with_reducible refine g_nil ?_)
local macro_rules | `(tactic| k_state_short () "x1") => `(tactic| first
  | ((with_reducible refine' ⟨_, _, _, _, rfl, rfl, ?k1, ?k2, ?_⟩); (case k1 => k_state_short () "look"); (case k2 => rfl))
  | ((with_reducible refine' ⟨_, _, _, ?k1, ?k2, ?k3, ?_⟩); (case k1 => k_state_short () "tyn"); (case k2 => k_state_short () "kit"); (case k3 => k_state_short () "kit"))
  | ((with_reducible refine' ⟨_, rfl, ?k1, ?_⟩); (case k1 => with_reducible (refine And.intro ?_ ?_) <;> omega))
  | with_reducible refine ⟨_, rfl, ?_⟩
  | ((with_reducible refine' ⟨_, ?k1, ?_⟩); (case k1 => k_state_short () "tru"))
  | with_reducible refine And.intro (fun (_ : true = true) => ?_) (fun (e : true = false) => Bool.noConfusion e) | with_reducible refine And.intro (fun (e : false = true) => Bool.noConfusion e) (fun (_ : false = false) => ?_)
  | with_reducible refine And.intro (fun (e : true = false) => Bool.noConfusion e) (fun (_ : true = true) => ?_) | with_reducible refine And.intro (fun (_ : false = false) => ?_) (fun (e : false = true) => Bool.noConfusion e)
  | with_reducible refine And.intro (fun (e : (!true) = true) => (nt_t e).elim) (fun (_ : (!true) = false) => ?_) | with_reducible refine And.intro (fun (_ : (!false) = true) => ?_) (fun (e : (!false) = false) => (nf_f e).elim)
  | with_reducible refine And.intro (fun (_ : (!true) = false) => ?_) (fun (e : (!true) = true) => (nt_t e).elim) | with_reducible refine And.intro (fun (e : (!false) = false) => (nf_f e).elim) (fun (_ : (!false) = true) => ?_)
  | ((with_reducible refine' and_r ?k1 ?_); (case k1 => decide)) | ((with_reducible refine' and_l ?k1 ?_); (case k1 => decide)) | ((with_reducible refine' dna_r ?k1 ?_); (case k1 => decide)) | ((with_reducible refine' dna_l ?k1 ?_); (case k1 => decide))
  | with_reducible refine @And.intro (_ = true → _) (_ = false → _) ?_ ?_ | with_reducible refine @And.intro (_ = false → _) (_ = true → _) ?_ ?_
  | (with_reducible refine And.intro ?k1 ?_; (case k1 => exact Nat.le_of_ble_eq_true rfl)))
local macro_rules | `(tactic| k_state_short () "gws") => `(tactic| first | exact gws_nil | (refine gws_cons gmono_name (gw_name (by decide)) ?_; k_state_short () "gws"))
local macro_rules | `(tactic| k_state_short () "gw") => `(tactic| first | exact gw_name (by decide) | (refine gw_tup ?_; k_state_short () "gws"))
local macro_rules | `(tactic| k_state_short () "d1") => `(tactic| first | k_state_short () "s1" | k_state_short () "e1" | k_state_short () "r1" | k_state_short () "x1")
local macro_rules | `(tactic| k_state_short () "d") => `(tactic| repeat k_state_short () "d1")
section
variable {K : PySem.W.Frag}
theorem r_neSX {h : DH} {Q : DK} {n m : Str} (q : Q (.bl (!decide (n = m))) h) : dR K (rNeX K) (.str n) (.str m) h Q := fun G F H vx vy rh rx ry QV k => Or.inl (r_neS q G F H vx vy rh rx ry QV k)
theorem way_pl (w : Way) : plD w.d = true := rfl
theorem net_pl (m : Int) (ws : List Way) : plD (netD m ws) = true := by
  show (true && ((plDs (ws.map Way.d)) && true)) = true
  rw [plDs_map _ way_pl]; rfl
theorem net_dp (m : Int) (ws : List Way) : dpD (netD m ws) ≤ 64 := by
  show max 0 (max (dpDs (ws.map Way.d) + 1) 0) + 1 ≤ 64
  have := dpDs_map Way.d 1 (fun w => Nat.le_refl _) ws
  omega
theorem r_netNe {h : DH} {Q : DK} {m : Int} {ws : List Way} (q : Q (.bl false) h) : dR K (rNeX K) (netD m ws) (netD m ws) h Q := by
  refine r_neP (net_pl _ _) (net_pl _ _) (net_dp _ _) (net_dp _ _) ?_
  rw [eqv_toP (net_pl _ _)]
  exact q
theorem forth_snoc : ∀ {gs : List Int} {ws : List Way} {g : Int} {w : Way}, forthB gs ws = true → 0 ≤ g → g ≤ w.r → forthB (gs ++ [g]) (ws ++ [w]) = true
  | [], [], g, w, _, h0, h1 => by
    show ((decide (0 ≤ g) && decide (g ≤ w.r)) && true) = true
    rw [decide_eq_true h0, decide_eq_true h1]; rfl
  | [], _ :: _, _, _, e, _, _ => Bool.noConfusion e
  | _ :: _, [], _, _, e, _, _ => Bool.noConfusion e
  | a :: gs, b :: ws, g, w, e, h0, h1 => by
    have e2 : ((decide (0 ≤ a) && decide (a ≤ b.r)) && forthB gs ws) = true := e
    rw [Bool.and_eq_true] at e2
    show ((decide (0 ≤ a) && decide (a ≤ b.r)) && forthB (gs ++ [g]) (ws ++ [w])) = true
    rw [e2.1, forth_snoc e2.2 h0 h1]; rfl
def sp_law : DSp := fun ds h Q _ => ∃ ns : List Int, ds = [.rd (ns.map D.int)] ∧ ns.length ≤ 63 ∧ ∀ h', Q (.bl true) h'
theorem pr_law : ∀ ds h QD QX, sp_law ds h QD QX → dB K (t_law K sp_all sp_net (sp_open K) sp_due sp_wide (sp_laned K) sp_bad sp_heard (sp_fright K) sp_wider) N_law ds h QD := by
  rintro ds h QD QX ⟨ns, rfl, hz, k⟩
  k_state_short () "d"
  refine ⟨_, _, rfl, hz, ⟨by decide, by decide⟩, fun dl dw => ?_⟩
  k_state_short () "d"
  refine ⟨_, _, rfl, dw, fun m ws hm wz ok => ?_⟩
  k_state_short () "d"
  unfold netD
  refine e_lcM (gw_name (by decide)) ?_
  k_state_short () "d"
  refine ⟨_, .tup _, by rw [List.length_map]; omega, .tup _, (roomsOf ws).map D.int, by unfold roomsOf; rw [List.length_map, List.length_map, List.length_map], fun i d hd => ?_, ?_⟩
  · obtain ⟨w, h4, rfl⟩ := mapD_get hd
    unfold Way.d
    k_state_short () "d"
    exact ⟨rfl, by unfold roomsOf; rw [List.getElem?_map, List.getElem?_map, h4]; rfl⟩
  have rl : (roomsOf ws).length = ws.length := by unfold roomsOf; rw [List.length_map]
  k_state_short () "d"
  refine ⟨m, ws, rfl, by omega, fun _ => ?_, fun e => absurd e (by omega)⟩
  k_state_short () "d"
  refine ⟨m, ws, _, _, roomsOf ws, roomsOf ws, rfl, .lst (.frz _), .lst (.frz _), by omega, rl, rl, ?_⟩
  refine r_netNe ?_
  k_state_short () "d"
  refine s_for ?_
  k_state_short () "d"
  refine ⟨fun i δ' h' => ∃ x4 x7 x8 x9 : Option D, δ' = [some (.rd (ns.map D.int)), some (.lst dl), some (netD m ws), some (.lst ((roomsOf ws).map D.int)), x4, none, none, x7, x8, x9, none, none], ⟨none, none, none, none, rfl⟩, fun _ _ _ _ => trivial, ?_, ?_⟩
  · rintro i d δ' h' hd ⟨x4, x7, x8, x9, rfl⟩
    obtain ⟨hi, rfl⟩ := rngD_get hd
    generalize ((0 : Int) + (i : Int)) = ii at hd
    k_state_short () "d"
    refine e_lcX (gw_name (by decide)) ?_
    k_state_short () "d"
    have lm : (List.map D.int (roomsOf ws)).length = ws.length := by rw [List.length_map, rl]
    refine ⟨by rw [lm]; constructor <;> omega, by rw [rngD_len, lm]; omega, fun j acc h2 => h2 = h' ∧ ∃ gs : List Int, acc = gs.map D.int ∧ gs.length = j ∧ forthB gs (ws.take j) = true, ⟨rfl, [], rfl, rfl, rfl⟩, fun _ _ _ _ => trivial, ?_, ?_⟩
    · rintro j d acc h2 hd2 ⟨rfl, gs, rfl, gz, gf⟩ _
      obtain ⟨hj, rfl⟩ := rngD_get hd2
      have hj2 : j < ws.length := by rw [lm] at hj; omega
      obtain ⟨w, ew⟩ : ∃ w, ws[j]? = some w := ⟨_, List.getElem?_eq_getElem hj2⟩
      have er : (roomsOf ws)[j]? = some w.r := by unfold roomsOf; rw [List.getElem?_map, ew]; rfl
      have ar : atI ((roomsOf ws).map D.int) ((0 : Int) + (j : Int)) = some (.int w.r) := at_nat er
      have ow := (ok w (List.mem_of_getElem? ew)).r
      k_state_short () "d"
      refine r_ix (.lst (.frz _)) ar ?_
      k_state_short () "d"
      refine ⟨_, _, _, rfl, dw, by omega, fun g g0 g1 => ?_⟩
      refine ⟨rfl, gs ++ [g], by rw [List.map_append]; rfl, by rw [List.length_append, gz]; rfl, ?_⟩
      rw [List.take_add_one, ew]
      exact forth_snoc gf g0 (by omega)
    · rintro acc h2 ⟨rfl, gs, rfl, gz, gf⟩
      rw [rngD_len, lm] at gz gf
      left
      have gf2 : forthB gs ws = true := by rw [List.take_of_length_le (by omega)] at gf; exact gf
      clear gf
      have gl := forth_len gf2
      k_state_short () "d"
      refine e_lcM (gw_name (by decide)) ?_
      k_state_short () "d"
      refine ⟨by rw [rngD_len, lm]; omega, trivial, (lessI gs ws).map D.int, by rw [List.length_map, rngD_len, lm]; unfold lessI; rw [List.length_zipWith]; omega, fun j d hd2 => ?_, ?_⟩
      · obtain ⟨hj, rfl⟩ := rngD_get hd2
        have hj2 : j < ws.length := by rw [lm] at hj; omega
        obtain ⟨w, ew⟩ : ∃ w, ws[j]? = some w := ⟨_, List.getElem?_eq_getElem hj2⟩
        obtain ⟨g, eg⟩ : ∃ g, gs[j]? = some g := ⟨_, List.getElem?_eq_getElem (by omega)⟩
        have er : (roomsOf ws)[j]? = some w.r := by unfold roomsOf; rw [List.getElem?_map, ew]; rfl
        have ar : atI ((roomsOf ws).map D.int) ((0 : Int) + (j : Int)) = some (.int w.r) := at_nat er
        have ag : atI (gs.map D.int) ((0 : Int) + (j : Int)) = some (.int g) := at_nat eg
        k_state_short () "d"
        refine r_ix (.lst (.frz _)) ar ?_
        k_state_short () "d"
        refine r_ix (.tup _) ag ?_
        k_state_short () "d"
        exact ⟨rfl, by unfold lessI; rw [List.getElem?_map, List.getElem?_zipWith, eg, ew]; rfl⟩
      have ll : (lessI gs ws).length = ws.length := by unfold lessI; rw [List.length_zipWith]; omega
      k_state_short () "d"
      refine ⟨m, ws, gs, rfl, by omega, fun _ _ => ?_, fun _ e => absurd (gf2.symm.trans e) Bool.noConfusion, fun e => absurd e (by omega)⟩
      k_state_short () "d"
      refine ⟨m, ws, _, _, gs, lessI gs ws, rfl, .tup _, .lst (.frz _), by omega, gl, ll, ?_⟩
      refine r_netNe ?_
      k_state_short () "d"
      refine ⟨dl, _, m, ws, gs, rfl, dw, wz, gf2, fun bs bf => ?_⟩
      k_state_short () "d"
      refine ⟨m, ws, bs, 1, "much", rfl, by omega, .inl ⟨wz, bf, rfl, rfl⟩, ?_⟩
      k_state_short () "d"
      refine r_neSX ?_
      k_state_short () "d"
      refine ⟨m, ws, 5, bs, rfl, by omega, fun _ => bf, fun _ _ => ?_, fun e => absurd e (by omega)⟩
      k_state_short () "d"
      exact ⟨_, _, _, _, rfl⟩
  · rintro δ' h' ⟨x4, x7, x8, x9, rfl⟩
    k_state_short () "d"
    refine ⟨dl, m, ws, rfl, dw, hm, wz, ok, fun vs v6 v12 => ?_⟩
    k_state_short () "d"
    unfold netD
    refine e_lcM (gw_name (by decide)) ?_
    k_state_short () "d"
    refine ⟨_, .tup _, by rw [List.length_map]; omega, .tup _, (roomsOf vs).map D.int, by unfold roomsOf; rw [List.length_map, List.length_map, List.length_map], fun i d hd => ?_, ?_⟩
    · obtain ⟨w, h4, rfl⟩ := mapD_get hd
      unfold Way.d
      k_state_short () "d"
      exact ⟨rfl, by unfold roomsOf; rw [List.getElem?_map, List.getElem?_map, h4]; rfl⟩
    have rv : (roomsOf vs).length = vs.length := by unfold roomsOf; rw [List.length_map]
    have rm : ((roomsOf vs).map D.int).length = vs.length := by rw [List.length_map, rv]
    generalize roomsOf vs = due at rv rm
    have chi := cut_hi (ds := due.map D.int) (n := 1) (by decide) (by omega)
    have hp := hi_part (ds := due.map D.int) (n := 1) (by decide) (by omega)
    k_state_short () "d"
    refine s_for ?_
    k_state_short () "d"
    refine e_lstF ?_
    k_state_short () "d"
    refine e_slT ?_
    k_state_short () "d"
    refine ⟨hp, ?_⟩
    rw [chi]
    k_state_short () "d"
    refine r_addT (by rw [rm]; simp; omega) ?_
    k_state_short () "d"
    refine e_un (e_int (u_negI ?_))
    k_state_short () "d"
    refine e_slT ?_
    k_state_short () "d"
    refine ⟨hp, ?_⟩
    rw [chi]
    refine r_addT (by rw [List.length_drop]; simp; omega) ?_
    k_state_short () "d"
    refine ⟨_, .lst (.frz _), fun i δ' h' => ∃ x7 : Option D, δ' = [some (.rd (ns.map D.int)), some (.lst dl), some (netD m ws), some (.lst ((roomsOf ws).map D.int)), x4, some (netD m vs), some (.tup (due.map D.int)), x7, x8, x9, none, none], ⟨_, rfl⟩, fun _ _ _ _ => .lst (.frz _), ?_, ?_⟩
    · rintro i d δ' h2 hd ⟨x7, rfl⟩
      have all : ∀ d ∈ [D.tup (due.map D.int), D.tup ((due.map D.int).drop (Int.toNat 1)), D.tup (due.map D.int ++ [D.int 0]), D.tup ([D.int (-1)] ++ (due.map D.int).drop (Int.toNat 1))], ∃ gs : List Int, d = .tup (gs.map D.int) :=
        allI_cons ⟨_, rfl⟩ (allI_cons ⟨due.drop (Int.toNat 1), by rw [List.map_drop]⟩ (allI_cons ⟨due ++ [0], by rw [List.map_append]; rfl⟩ (allI_cons ⟨-1 :: due.drop (Int.toNat 1), by rw [List.map_cons, List.map_drop]; rfl⟩ allI_nil)))
      obtain ⟨gs, rfl⟩ := all d (List.mem_of_getElem? hd)
      clear hd
      k_state_short () "d"
      refine e_lcM (gw_name (by decide)) ?_
      k_state_short () "d"
      refine ⟨trivial, List.replicate 4 (D.str "many"), by rw [rngD_len]; rfl, fun j d hd2 => ?_, ?_⟩
      · obtain ⟨hj, rfl⟩ := rngD_get hd2
        have hj4 : j < 4 := hj
        k_state_short () "d"
        refine ⟨m, vs, gs, _, "many", rfl, by omega, .inr ⟨v6, by omega, rfl⟩, rfl, ?_⟩
        rw [List.getElem?_replicate, if_pos hj4]
      k_state_short () "d"
      refine e_lstF ?_
      k_state_short () "d"
      refine r_mulL (.frz _) (by decide) (by decide) fun p hp2 => ?_
      have pl : plDs (List.replicate 4 (D.str "many")) = true := by decide +kernel
      have dp : dpD (D.lst (List.replicate 4 (D.str "many"))) ≤ 64 := by decide
      refine r_neD (p := toP (.lst (List.replicate 4 (.str "many")))) (q := toP (.lst (List.replicate 4 (.str "many")))) (dpy_toP _ _ pl) (.lst (.own (du_same (o := .lst (List.replicate 4 (.str "many"))))) (dpys_toP _ _ pl)) (shaped_toP pl dp) (shaped_toP pl dp) ?_
      rw [eqv_toP (d := .lst (List.replicate 4 (.str "many"))) pl]
      k_state_short () "d"
      exact ⟨_, rfl⟩
    · rintro δ' h2 ⟨x7, rfl⟩
      k_state_short () "d"
      exact k _
end
end Lw
set_option maxHeartbeats 2000000
/-! DL: the end, with one Bool more. -/
namespace DL
open PySem PySem.Spec PyProof.Rows L2
/-- what is told behind the top: the facts, the defs, the Bool ex -/
def obsE (n : Nat) (fa : List He.Fa) (fn : List He.DefD) (ex : PySem.W.Frag → Bool) (g : Addr → Option Obj) : He.AlD × Bool := (He.obsDG n fa fn g, ex (He.frG g (He.asD g n)))
def hookE (n : Nat) (fa : List He.Fa) (fn : List He.DefD) (ex : PySem.W.Frag → Bool) : PySem.W.Hook where
  α := He.AlD × Bool
  obs := fun s => obsE n fa fn ex s.heap.get?
  val := fun _ => (He.valD fn, true)
  says := fun _ h => ∃ K : PySem.W.Frag, K.In h ∧ He.SaysD fa fn K ∧ ex K = true
  of := fun _ _ e => ⟨_, He.frG_in, congrArg (fun z : He.AlD × Bool => z.1) e, congrArg (fun z : He.AlD × Bool => z.2) e⟩
  keeps := fun _ _ _ ⟨K, hK, c⟩ k => ⟨K, PySem.W.Frag.In.keeps hK k, c⟩
theorem obsE_eq {n : Nat} {fa : List He.Fa} {fn : List He.DefD} {ex : PySem.W.Frag → Bool} {g : Addr → Option Obj} {s : Shared} (h : ∀ a, g a = s.heap.get? a) : obsE n fa fn ex g = (hookE n fa fn ex).obs s := by
  have e : g = s.heap.get? := funext h
  rw [e]
  rfl
/-- what isinstance wants of an error's class -/
def excB (K : PySem.W.Frag) (D : Addr) : Bool :=
  decide (PySem.W.findIn K (.ref D) "__getattribute__" = some (some (.builtin "BaseException.__getattribute__"))) && (decide (PySem.W.findIn K (.ref D) "__getattr__" = some none) && (decide (PySem.W.subIn K (.ref D) (.type "BaseException") = some true) &&
  (PySem.W.hasDictIn K D && (decide (PySem.W.findIn K (.ref D) "__class__" = some (some (.builtin "object.__class__"))) && (decide (PySem.W.specialIn K (.builtin "object.__class__") "__get__" = some (some (.builtin "getset_descriptor.__get__"))) &&
  (decide (PySem.W.takesIn K (.builtin "object.__class__") = some true) && decide (PySem.W.mroIn K D (.type "object") = some true)))))))
theorem excB_ok {K : PySem.W.Frag} {D : Addr} (h : excB K D = true) : ExcC K D := by
  unfold excB at h
  simp only [Bool.and_eq_true, decide_eq_true_eq] at h
  obtain ⟨h1, h2, h3, h4, h5, h6, h7, h8⟩ := h
  exact ⟨h1, h2, h3, h4, h5, h6, h7, h8⟩
end DL
set_option maxHeartbeats 0
namespace Lw
open PySem PySem.Spec PyProof.Rows L2 DL
abbrev st_bends_of : Stmt := top 9
abbrev st_light_stream : Stmt := top 12
abbrev st_most_by : Stmt := top 15
theorem len_look_at_lanes {K : PySem.W.Frag} : ∀ ds h QD QX, (sp_lk K) ds h QD QX → ds.length = 1 := by
  intro ds h QD QX hs
  unfold sp_lk at hs
  repeat (obtain ⟨_, hs⟩ := hs)
  all_goals (first | (obtain ⟨rfl, _⟩ := hs; rfl) | (subst_vars; rfl))
theorem len_is_forth : ∀ ds h QD QX, sp_is_forth ds h QD QX → ds.length = 2 := by
  intro ds h QD QX hs
  unfold sp_is_forth at hs
  repeat (obtain ⟨_, hs⟩ := hs)
  all_goals (first | (obtain ⟨rfl, _⟩ := hs; rfl) | (subst_vars; rfl))
theorem len_parted_ways : ∀ ds h QD QX, sp_parted ds h QD QX → ds.length = 3 := by
  intro ds h QD QX hs
  unfold sp_parted at hs
  repeat (obtain ⟨_, hs⟩ := hs)
  all_goals (first | (obtain ⟨rfl, _⟩ := hs; rfl) | (subst_vars; rfl))
theorem len_open_net {K : PySem.W.Frag} : ∀ ds h QD QX, (sp_open K) ds h QD QX → ds.length = 1 := by
  intro ds h QD QX hs
  unfold sp_open at hs
  repeat (obtain ⟨_, hs⟩ := hs)
  all_goals (first | (obtain ⟨rfl, _⟩ := hs; rfl) | (subst_vars; rfl))
theorem len_laned_net {K : PySem.W.Frag} : ∀ ds h QD QX, (sp_laned K) ds h QD QX → ds.length = 2 := by
  intro ds h QD QX hs
  unfold sp_laned at hs
  repeat (obtain ⟨_, hs⟩ := hs)
  all_goals (first | (obtain ⟨rfl, _⟩ := hs; rfl) | (subst_vars; rfl))
theorem len_best_forth {K : PySem.W.Frag} : ∀ ds h QD QX, (sp_best K) ds h QD QX → ds.length = 2 := by
  intro ds h QD QX hs
  unfold sp_best at hs
  repeat (obtain ⟨_, hs⟩ := hs)
  all_goals (first | (obtain ⟨rfl, _⟩ := hs; rfl) | (subst_vars; rfl))
theorem len_forth_right {K : PySem.W.Frag} : ∀ ds h QD QX, (sp_fright K) ds h QD QX → ds.length = 3 := by
  intro ds h QD QX hs
  unfold sp_fright at hs
  repeat (obtain ⟨_, hs⟩ := hs)
  all_goals (first | (obtain ⟨rfl, _⟩ := hs; rfl) | (subst_vars; rfl))
theorem len_is_number : ∀ ds h QD QX, sp_is_number ds h QD QX → ds.length = 1 := by
  intro ds h QD QX hs
  unfold sp_is_number at hs
  repeat (obtain ⟨_, hs⟩ := hs)
  all_goals (first | (obtain ⟨rfl, _⟩ := hs; rfl) | (subst_vars; rfl))
theorem len_is_within : ∀ ds h QD QX, sp_is_within ds h QD QX → ds.length = 3 := by
  intro ds h QD QX hs
  unfold sp_is_within at hs
  repeat (obtain ⟨_, hs⟩ := hs)
  all_goals (first | (obtain ⟨rfl, _⟩ := hs; rfl) | (subst_vars; rfl))
theorem len_is_way : ∀ ds h QD QX, sp_is_way ds h QD QX → ds.length = 2 := by
  intro ds h QD QX hs
  unfold sp_is_way at hs
  repeat (obtain ⟨_, hs⟩ := hs)
  all_goals (first | (obtain ⟨rfl, _⟩ := hs; rfl) | (subst_vars; rfl))
theorem len_made_net : ∀ ds h QD QX, sp_made_net ds h QD QX → ds.length = 2 := by
  intro ds h QD QX hs
  unfold sp_made_net at hs
  repeat (obtain ⟨_, hs⟩ := hs)
  all_goals (first | (obtain ⟨rfl, _⟩ := hs; rfl) | (subst_vars; rfl))
theorem len__law_all : ∀ ds h QD QX, sp_all ds h QD QX → ds.length = 2 := by
  intro ds h QD QX hs
  unfold sp_all at hs
  repeat (obtain ⟨_, hs⟩ := hs)
  all_goals (first | (obtain ⟨rfl, _⟩ := hs; rfl) | (subst_vars; rfl))
theorem len__law_draw : ∀ ds h QD QX, sp_draw ds h QD QX → ds.length = 3 := by
  intro ds h QD QX hs
  unfold sp_draw at hs
  repeat (obtain ⟨_, hs⟩ := hs)
  all_goals (first | (obtain ⟨rfl, _⟩ := hs; rfl) | (subst_vars; rfl))
theorem len__law_wide : ∀ ds h QD QX, sp_wide ds h QD QX → ds.length = 3 := by
  intro ds h QD QX hs
  unfold sp_wide at hs
  repeat (obtain ⟨_, hs⟩ := hs)
  all_goals (first | (obtain ⟨rfl, _⟩ := hs; rfl) | (subst_vars; rfl))
theorem len__law_net : ∀ ds h QD QX, sp_net ds h QD QX → ds.length = 4 := by
  intro ds h QD QX hs
  unfold sp_net at hs
  repeat (obtain ⟨_, hs⟩ := hs)
  all_goals (first | (obtain ⟨rfl, _⟩ := hs; rfl) | (subst_vars; rfl))
theorem len__law_due : ∀ ds h QD QX, sp_due ds h QD QX → ds.length = 3 := by
  intro ds h QD QX hs
  unfold sp_due at hs
  repeat (obtain ⟨_, hs⟩ := hs)
  all_goals (first | (obtain ⟨rfl, _⟩ := hs; rfl) | (subst_vars; rfl))
theorem len__law_heard : ∀ ds h QD QX, sp_heard ds h QD QX → ds.length = 3 := by
  intro ds h QD QX hs
  unfold sp_heard at hs
  repeat (obtain ⟨_, hs⟩ := hs)
  all_goals (first | (obtain ⟨rfl, _⟩ := hs; rfl) | (subst_vars; rfl))
theorem len__law_bad : ∀ ds h QD QX, sp_bad ds h QD QX → ds.length = 4 := by
  intro ds h QD QX hs
  unfold sp_bad at hs
  repeat (obtain ⟨_, hs⟩ := hs)
  all_goals (first | (obtain ⟨rfl, _⟩ := hs; rfl) | (subst_vars; rfl))
theorem len__law_wider : ∀ ds h QD QX, sp_wider ds h QD QX → ds.length = 2 := by
  intro ds h QD QX hs
  unfold sp_wider at hs
  repeat (obtain ⟨_, hs⟩ := hs)
  all_goals (first | (obtain ⟨rfl, _⟩ := hs; rfl) | (subst_vars; rfl))
theorem len_law : ∀ ds h QD QX, sp_law ds h QD QX → ds.length = 1 := by
  intro ds h QD QX hs
  unfold sp_law at hs
  repeat (obtain ⟨_, hs⟩ := hs)
  all_goals (first | (obtain ⟨rfl, _⟩ := hs; rfl) | (subst_vars; rfl))
def d_bends_of : He.DefD := ⟨("bends_of", none), "bends_of", "bends_of", defArgs st_bends_of, defBody st_bends_of, defScope st_bends_of, [], []⟩
def d_light_stream : He.DefD := ⟨("light_stream", none), "light_stream", "light_stream", defArgs st_light_stream, defBody st_light_stream, defScope st_light_stream, [], []⟩
def d_most_by : He.DefD := ⟨("most_by", none), "most_by", "most_by", defArgs st_most_by, defBody st_most_by, defScope st_most_by, [], []⟩
def d_look_at_lanes : He.DefD := ⟨("look_at_lanes", none), "look_at_lanes", "look_at_lanes", defArgs st_look_at_lanes, defBody st_look_at_lanes, defScope st_look_at_lanes, [], []⟩
def d_is_forth : He.DefD := ⟨("is_forth", none), "is_forth", "is_forth", defArgs st_is_forth, defBody st_is_forth, defScope st_is_forth, [], []⟩
def d_parted_ways : He.DefD := ⟨("parted_ways", none), "parted_ways", "parted_ways", defArgs st_parted_ways, defBody st_parted_ways, defScope st_parted_ways, [], []⟩
def d_open_net : He.DefD := ⟨("open_net", none), "open_net", "open_net", defArgs st_open_net, defBody st_open_net, defScope st_open_net, [], []⟩
def d_laned_net : He.DefD := ⟨("laned_net", none), "laned_net", "laned_net", defArgs st_laned_net, defBody st_laned_net, defScope st_laned_net, [], []⟩
def d_best_forth : He.DefD := ⟨("best_forth", none), "best_forth", "best_forth", defArgs st_best_forth, defBody st_best_forth, defScope st_best_forth, [], []⟩
def d_forth_right : He.DefD := ⟨("forth_right", none), "forth_right", "forth_right", defArgs st_forth_right, defBody st_forth_right, defScope st_forth_right, [], []⟩
def d_is_number : He.DefD := ⟨("is_number", none), "is_number", "is_number", defArgs st_is_number, defBody st_is_number, defScope st_is_number, [], []⟩
def d_is_within : He.DefD := ⟨("is_within", none), "is_within", "is_within", defArgs st_is_within, defBody st_is_within, defScope st_is_within, [], []⟩
def d_is_way : He.DefD := ⟨("is_way", none), "is_way", "is_way", defArgs st_is_way, defBody st_is_way, defScope st_is_way, [], []⟩
def d_made_net : He.DefD := ⟨("made_net", none), "made_net", "made_net", defArgs st_made_net, defBody st_made_net, defScope st_made_net, [], []⟩
def d__law_all : He.DefD := ⟨("_law_all", none), "_law_all", "_law_all", defArgs st__law_all, defBody st__law_all, defScope st__law_all, [], []⟩
def d__law_draw : He.DefD := ⟨("_law_draw", none), "_law_draw", "_law_draw", defArgs st__law_draw, defBody st__law_draw, defScope st__law_draw, [], []⟩
def d__law_wide : He.DefD := ⟨("_law_wide", none), "_law_wide", "_law_wide", defArgs st__law_wide, defBody st__law_wide, defScope st__law_wide, [], []⟩
def d__law_net : He.DefD := ⟨("_law_net", none), "_law_net", "_law_net", defArgs st__law_net, defBody st__law_net, defScope st__law_net, [], []⟩
def d__law_due : He.DefD := ⟨("_law_due", none), "_law_due", "_law_due", defArgs st__law_due, defBody st__law_due, defScope st__law_due, [], []⟩
def d__law_heard : He.DefD := ⟨("_law_heard", none), "_law_heard", "_law_heard", defArgs st__law_heard, defBody st__law_heard, defScope st__law_heard, [], []⟩
def d__law_bad : He.DefD := ⟨("_law_bad", none), "_law_bad", "_law_bad", defArgs st__law_bad, defBody st__law_bad, defScope st__law_bad, [], []⟩
def d__law_wider : He.DefD := ⟨("_law_wider", none), "_law_wider", "_law_wider", defArgs st__law_wider, defBody st__law_wider, defScope st__law_wider, [], []⟩
def d_law : He.DefD := ⟨("law", none), "law", "law", defArgs st_law, defBody st_law, defScope st_law, [], []⟩
def fn : List He.DefD := [d_bends_of, d_light_stream, d_most_by, d_look_at_lanes, d_is_forth, d_parted_ways, d_open_net, d_laned_net, d_best_forth, d_forth_right, d_is_number, d_is_within, d_is_way, d_made_net, d__law_all, d__law_draw, d__law_wide, d__law_net, d__law_due, d__law_heard, d__law_bad, d__law_wider, d_law]
def fa : List He.Fa := [.glo "bends_of", .glo "light_stream", .glo "most_by", .glo "look_at_lanes", .glo "is_forth", .glo "parted_ways", .glo "open_net", .glo "laned_net", .glo "best_forth", .glo "forth_right", .glo "is_number", .glo "is_within", .glo "is_way", .glo "made_net", .glo "_law_all", .glo "_law_draw", .glo "_law_wide", .glo "_law_net", .glo "_law_due", .glo "_law_heard", .glo "_law_bad", .glo "_law_wider", .glo "law", .glo "TooMany", .exc "TooMany", .glo "TooMuch", .exc "TooMuch", .glo "HaulError", .glo "BadHour", .glo "NoWay", .free "ValueError", .free "abs", .free "all", .free "bool", .free "enumerate", .free "int", .free "isinstance", .free "len", .free "list", .free "max", .free "min", .free "range", .free "sum", .free "tuple", .free "zip", .int "MOST_LANES" 6, .int "GREATEST_ROOM" 1000000000, .int "GREATEST_HOURS" 1000000, .int "MOST_PLACES" 6, .int "LEAST_PLACES" 2, .int "MOST_WAYS" 12]
def loose0 : List Str := ["__name__", "HaulError", "BadNet", "TooMany", "NoWay", "TooMuch", "BadHour", "RestNet", "bends_of", "clocks_of", "light_stream", "short_bends", "most_by", "MOST_LANES", "look_at_lanes", "is_forth", "parted_ways", "open_net", "laned_net", "best_forth", "forth_right", "LEAST_PLACES", "MOST_PLACES", "MOST_WAYS", "GREATEST_ROOM", "GREATEST_HOURS", "is_number", "is_within", "is_way", "made_net"]
def loose1 : List Str := ["_law_all", "_law_draw", "_law_wide", "_law_net", "_law_due", "_law_heard", "_law_bad", "_law_wider"]
def loose : List Str := loose0 ++ loose1
def ex1B (K : PySem.W.Frag) (D : Addr) (b1 b2 : Bool) : Bool := excB K D && (decide (PySem.W.exmOne K (.ref D) (.ref (He.ga K "HaulError")) = some true) && (decide (PySem.W.kitOne K (.ref D) (.ref (He.ga K "TooMany")) = some b1) && (decide (PySem.W.kitOne K (.ref D) (.ref (He.ga K "TooMuch")) = some b2) &&
  (decide (PySem.W.kitOne K (.ref D) (.ref (He.ga K "NoWay")) = some false) && (decide (PySem.W.kitOne K (.ref D) (.ref (He.ga K "BadHour")) = some false) && decide (PySem.W.kitOne K (.ref D) (.type "ValueError") = some true))))))
theorem ex1_ok {K : PySem.W.Frag} {D : Addr} {b1 b2 : Bool} (h : ex1B K D b1 b2 = true) : Exs1 K D b1 b2 := by
  unfold ex1B at h
  simp only [Bool.and_eq_true, decide_eq_true_eq] at h
  obtain ⟨h0, h1, h2, h3, h4, h5, h6⟩ := h
  exact ⟨excB_ok h0, h1, h2, h3, h4, h5, h6⟩
def exAll (K : PySem.W.Frag) : Bool := ex1B K (He.ga K "TooMany") true false && ex1B K (He.ga K "TooMuch") false true
theorem exAll_ok {K : PySem.W.Frag} (h : exAll K = true) : Exs K := by
  unfold exAll at h
  rw [Bool.and_eq_true] at h
  exact ⟨ex1_ok h.1, ex1_ok h.2⟩
abbrev R : PySem.W.OpenRow := PySem.W.OpenLaw.row PySem.Challenge.rw_hourhaul_k85_nets_laned_and_open
abbrev hk : PySem.W.Hook := hookE 4 fa fn exAll
def ob (s : PySem.W.SharedT) : He.AlD × Bool := obsE 4 fa fn exAll (HandSHeadRun.getT s)
theorem ob_eq (s : PySem.W.SharedT) : ob s = hk.obs s.abs := obsE_eq (HandSHeadRun.getT_eq s)
theorem run (w : World) : HandSHeadRun.RunEq R (PySem.W.view R.prog [44]) hk ob 3000 loose w := by
  intro os
  kernel_rfl
theorem facts {P : Program} {w : World} {K : PySem.W.Frag} {h : Heap} {mg : Str → Option Value} {f : Addr} (X : K.In h) (G : h.Ns mainGlobals mg) (hfa : mg ("law" : Str) = some (.ref f)) (c : He.SaysD fa fn K) (cx : exAll K = true) :
    ∃ fd : FuncData, (∀ (s : Shared) (v : Value), BindsTo s fd ⟨[v], []⟩ [("script", v)]) ∧ ∀ base : Heap, K.In base → base.Ns mainGlobals mg → FnOk P w K mg base CX0 6 f fd ["script"] (upSp K sp_law) := by
  have Ex0 := exAll_ok cx
  have T : Txt K mg := ⟨He.free_ok X G (c.fact 30 (f := .free "ValueError") rfl), He.free_ok X G (c.fact 31 (f := .free "abs") rfl), He.free_ok X G (c.fact 32 (f := .free "all") rfl), He.free_ok X G (c.fact 33 (f := .free "bool") rfl), He.free_ok X G (c.fact 34 (f := .free "enumerate") rfl), He.free_ok X G (c.fact 35 (f := .free "int") rfl), He.free_ok X G (c.fact 36 (f := .free "isinstance") rfl), He.free_ok X G (c.fact 37 (f := .free "len") rfl), He.free_ok X G (c.fact 38 (f := .free "list") rfl), He.free_ok X G (c.fact 39 (f := .free "max") rfl), He.free_ok X G (c.fact 40 (f := .free "min") rfl), He.free_ok X G (c.fact 41 (f := .free "range") rfl), He.free_ok X G (c.fact 42 (f := .free "sum") rfl), He.free_ok X G (c.fact 43 (f := .free "tuple") rfl), He.free_ok X G (c.fact 44 (f := .free "zip") rfl), intD (X := X) X G (c.fact 45 (f := .int "MOST_LANES" 6) rfl), intD (X := X) X G (c.fact 46 (f := .int "GREATEST_ROOM" 1000000000) rfl), intD (X := X) X G (c.fact 47 (f := .int "GREATEST_HOURS" 1000000) rfl), intD (X := X) X G (c.fact 48 (f := .int "MOST_PLACES" 6) rfl), intD (X := X) X G (c.fact 49 (f := .int "LEAST_PLACES" 2) rfl), intD (X := X) X G (c.fact 50 (f := .int "MOST_WAYS" 12) rfl), He.glo_ok X G (c.fact 23 (f := .glo "TooMany") rfl), He.glo_ok X G (c.fact 25 (f := .glo "TooMuch") rfl), He.glo_ok X G (c.fact 27 (f := .glo "HaulError") rfl), He.glo_ok X G (c.fact 28 (f := .glo "BadHour") rfl), He.glo_ok X G (c.fact 29 (f := .glo "NoWay") rfl), (c.fact 24 (f := .exc "TooMany") rfl), (c.fact 26 (f := .exc "TooMuch") rfl)⟩
  obtain ⟨fd_bends_of, F0_bends_of⟩ := c.def_ 0 (d := d_bends_of) rfl
  have F_bends_of : FunD K "bends_of" "bends_of" (defArgs st_bends_of) (defBody st_bends_of) (defScope st_bends_of) [] [] (He.ga K "bends_of") fd_bends_of := F0_bends_of
  clear F0_bends_of
  have g_bends_of := He.glo_ok X G (c.fact 0 (f := .glo "bends_of") rfl)
  have b_bends_of : Binds K fd_bends_of ["net"] [] := FunD.bindsN F_bends_of fun _ _ _ _ _ _ us hl => match us, hl with | [_], _ => rfl
  have k_bends_of : ∀ base : Heap, C8.Cal P w K mg base 0 "bends_of" (upSp K spNever) [] := fun base => calNever g_bends_of F_bends_of.kp b_bends_of
  obtain ⟨fd_light_stream, F0_light_stream⟩ := c.def_ 1 (d := d_light_stream) rfl
  have F_light_stream : FunD K "light_stream" "light_stream" (defArgs st_light_stream) (defBody st_light_stream) (defScope st_light_stream) [] [] (He.ga K "light_stream") fd_light_stream := F0_light_stream
  clear F0_light_stream
  have g_light_stream := He.glo_ok X G (c.fact 1 (f := .glo "light_stream") rfl)
  have b_light_stream : Binds K fd_light_stream ["net", "rate"] [] := FunD.bindsN F_light_stream fun _ _ _ _ _ _ us hl => match us, hl with | [_, _], _ => rfl
  have k_light_stream : ∀ base : Heap, C8.Cal P w K mg base 0 "light_stream" (upSp K spNever) [] := fun base => calNever g_light_stream F_light_stream.kp b_light_stream
  obtain ⟨fd_most_by, F0_most_by⟩ := c.def_ 2 (d := d_most_by) rfl
  have F_most_by : FunD K "most_by" "most_by" (defArgs st_most_by) (defBody st_most_by) (defScope st_most_by) [] [] (He.ga K "most_by") fd_most_by := F0_most_by
  clear F0_most_by
  have g_most_by := He.glo_ok X G (c.fact 2 (f := .glo "most_by") rfl)
  have b_most_by : Binds K fd_most_by ["net", "last"] [] := FunD.bindsN F_most_by fun _ _ _ _ _ _ us hl => match us, hl with | [_, _], _ => rfl
  have k_most_by : ∀ base : Heap, C8.Cal P w K mg base 0 "most_by" (upSp K spNever) [] := fun base => calNever g_most_by F_most_by.kp b_most_by
  obtain ⟨fd_look_at_lanes, F0_look_at_lanes⟩ := c.def_ 3 (d := d_look_at_lanes) rfl
  have F_look_at_lanes : FunD K "look_at_lanes" "look_at_lanes" (defArgs st_look_at_lanes) (defBody st_look_at_lanes) (defScope st_look_at_lanes) [] [] (He.ga K "look_at_lanes") fd_look_at_lanes := F0_look_at_lanes
  clear F0_look_at_lanes
  have g_look_at_lanes := He.glo_ok X G (c.fact 3 (f := .glo "look_at_lanes") rfl)
  have b_look_at_lanes : Binds K fd_look_at_lanes ["net"] [] := FunD.bindsN F_look_at_lanes fun _ _ _ _ _ _ us hl => match us, hl with | [_], _ => rfl
  have k_look_at_lanes : ∀ base : Heap, CalX P w K mg base 1 "look_at_lanes" (upSp K (sp_lk K)) := fun base => DL.calX (t := fun W => t_look_at_lanes K  W) F_look_at_lanes g_look_at_lanes b_look_at_lanes sc_look_at_lanes len_look_at_lanes (fun cdv A outer s H E hr => tm_look_at_lanes T  hr) pr_lk
  obtain ⟨fd_is_forth, F0_is_forth⟩ := c.def_ 4 (d := d_is_forth) rfl
  have F_is_forth : FunD K "is_forth" "is_forth" (defArgs st_is_forth) (defBody st_is_forth) (defScope st_is_forth) [] [] (He.ga K "is_forth") fd_is_forth := F0_is_forth
  clear F0_is_forth
  have g_is_forth := He.glo_ok X G (c.fact 4 (f := .glo "is_forth") rfl)
  have b_is_forth : Binds K fd_is_forth ["net", "forth"] [] := FunD.bindsN F_is_forth fun _ _ _ _ _ _ us hl => match us, hl with | [_, _], _ => rfl
  have k_is_forth : ∀ base : Heap, C8.Cal P w K mg base 1 "is_forth" (upSp K sp_is_forth) [] := fun base => calD F_is_forth g_is_forth b_is_forth sc_is_forth len_is_forth (fun cdv A outer s H E hr => tm_is_forth T  hr) pr_is_forth
  obtain ⟨fd_parted_ways, F0_parted_ways⟩ := c.def_ 5 (d := d_parted_ways) rfl
  have F_parted_ways : FunD K "parted_ways" "parted_ways" (defArgs st_parted_ways) (defBody st_parted_ways) (defScope st_parted_ways) [] [] (He.ga K "parted_ways") fd_parted_ways := F0_parted_ways
  clear F0_parted_ways
  have g_parted_ways := He.glo_ok X G (c.fact 5 (f := .glo "parted_ways") rfl)
  have b_parted_ways : Binds K fd_parted_ways ["net", "forth", "back"] [] := FunD.bindsN F_parted_ways fun _ _ _ _ _ _ us hl => match us, hl with | [_, _, _], _ => rfl
  have k_parted_ways : ∀ base : Heap, C8.Cal P w K mg base 1 "parted_ways" (upSp K sp_parted) [] := fun base => calD F_parted_ways g_parted_ways b_parted_ways sc_parted_ways len_parted_ways (fun cdv A outer s H E hr => tm_parted_ways T  hr) pr_parted
  obtain ⟨fd_open_net, F0_open_net⟩ := c.def_ 6 (d := d_open_net) rfl
  have F_open_net : FunD K "open_net" "open_net" (defArgs st_open_net) (defBody st_open_net) (defScope st_open_net) [] [] (He.ga K "open_net") fd_open_net := F0_open_net
  clear F0_open_net
  have g_open_net := He.glo_ok X G (c.fact 6 (f := .glo "open_net") rfl)
  have b_open_net : Binds K fd_open_net ["net"] [] := FunD.bindsN F_open_net fun _ _ _ _ _ _ us hl => match us, hl with | [_], _ => rfl
  have k_open_net : ∀ base : Heap, CalX P w K mg base 2 "open_net" (upSp K (sp_open K)) := fun base => DL.calX (t := fun W => t_open_net K (sp_lk K) sp_parted W) F_open_net g_open_net b_open_net sc_open_net len_open_net (fun cdv A outer s H E hr => tm_open_net T (k_look_at_lanes base) (by decide) (k_parted_ways base) (by decide) hr) pr_open
  obtain ⟨fd_laned_net, F0_laned_net⟩ := c.def_ 7 (d := d_laned_net) rfl
  have F_laned_net : FunD K "laned_net" "laned_net" (defArgs st_laned_net) (defBody st_laned_net) (defScope st_laned_net) [] [] (He.ga K "laned_net") fd_laned_net := F0_laned_net
  clear F0_laned_net
  have g_laned_net := He.glo_ok X G (c.fact 7 (f := .glo "laned_net") rfl)
  have b_laned_net : Binds K fd_laned_net ["net", "forth"] [] := FunD.bindsN F_laned_net fun _ _ _ _ _ _ us hl => match us, hl with | [_, _], _ => rfl
  have k_laned_net : ∀ base : Heap, CalX P w K mg base 2 "laned_net" (upSp K (sp_laned K)) := fun base => DL.calX (t := fun W => t_laned_net K (sp_lk K) sp_is_forth sp_parted W) F_laned_net g_laned_net b_laned_net sc_laned_net len_laned_net (fun cdv A outer s H E hr => tm_laned_net T (k_look_at_lanes base) (by decide) (k_is_forth base) (by decide) (k_parted_ways base) (by decide) hr) pr_laned
  obtain ⟨fd_best_forth, F0_best_forth⟩ := c.def_ 8 (d := d_best_forth) rfl
  have F_best_forth : FunD K "best_forth" "best_forth" (defArgs st_best_forth) (defBody st_best_forth) (defScope st_best_forth) [] [] (He.ga K "best_forth") fd_best_forth := F0_best_forth
  clear F0_best_forth
  have g_best_forth := He.glo_ok X G (c.fact 8 (f := .glo "best_forth") rfl)
  have b_best_forth : Binds K fd_best_forth ["net", "last"] [] := FunD.bindsN F_best_forth fun _ _ _ _ _ _ us hl => match us, hl with | [_, _], _ => rfl
  have k_best_forth : ∀ base : Heap, CalX P w K mg base 3 "best_forth" (upSp K (sp_best K)) := fun base => DL.calX (t := fun W => t_best_forth K (sp_open K) spNever spNever W) F_best_forth g_best_forth b_best_forth sc_best_forth len_best_forth (fun cdv A outer s H E hr => tm_best_forth T (k_open_net base) (by decide) (k_bends_of base) (by decide) (k_light_stream base) (by decide) hr) pr_best
  obtain ⟨fd_forth_right, F0_forth_right⟩ := c.def_ 9 (d := d_forth_right) rfl
  have F_forth_right : FunD K "forth_right" "forth_right" (defArgs st_forth_right) (defBody st_forth_right) (defScope st_forth_right) [] [] (He.ga K "forth_right") fd_forth_right := F0_forth_right
  clear F0_forth_right
  have g_forth_right := He.glo_ok X G (c.fact 9 (f := .glo "forth_right") rfl)
  have b_forth_right : Binds K fd_forth_right ["net", "last", "forth"] [] := FunD.bindsN F_forth_right fun _ _ _ _ _ _ us hl => match us, hl with | [_, _, _], _ => rfl
  have k_forth_right : ∀ base : Heap, CalX P w K mg base 3 "forth_right" (upSp K (sp_fright K)) := fun base => DL.calX (t := fun W => t_forth_right K (sp_open K) sp_is_forth spNever (sp_laned K) W) F_forth_right g_forth_right b_forth_right sc_forth_right len_forth_right (fun cdv A outer s H E hr => tm_forth_right T (k_open_net base) (by decide) (k_is_forth base) (by decide) (k_most_by base) (by decide) (k_laned_net base) (by decide) hr) pr_fright
  obtain ⟨fd_is_number, F0_is_number⟩ := c.def_ 10 (d := d_is_number) rfl
  have F_is_number : FunD K "is_number" "is_number" (defArgs st_is_number) (defBody st_is_number) (defScope st_is_number) [] [] (He.ga K "is_number") fd_is_number := F0_is_number
  clear F0_is_number
  have g_is_number := He.glo_ok X G (c.fact 10 (f := .glo "is_number") rfl)
  have b_is_number : Binds K fd_is_number ["thing"] [] := FunD.bindsN F_is_number fun _ _ _ _ _ _ us hl => match us, hl with | [_], _ => rfl
  have k_is_number : ∀ base : Heap, C8.Cal P w K mg base 1 "is_number" (upSp K sp_is_number) [] := fun base => calD F_is_number g_is_number b_is_number sc_is_number len_is_number (fun cdv A outer s H E hr => tm_is_number T  hr) pr_is_number
  obtain ⟨fd_is_within, F0_is_within⟩ := c.def_ 11 (d := d_is_within) rfl
  have F_is_within : FunD K "is_within" "is_within" (defArgs st_is_within) (defBody st_is_within) (defScope st_is_within) [] [] (He.ga K "is_within") fd_is_within := F0_is_within
  clear F0_is_within
  have g_is_within := He.glo_ok X G (c.fact 11 (f := .glo "is_within") rfl)
  have b_is_within : Binds K fd_is_within ["thing", "low", "high"] [] := FunD.bindsN F_is_within fun _ _ _ _ _ _ us hl => match us, hl with | [_, _, _], _ => rfl
  have k_is_within : ∀ base : Heap, C8.Cal P w K mg base 2 "is_within" (upSp K sp_is_within) [] := fun base => calD F_is_within g_is_within b_is_within sc_is_within len_is_within (fun cdv A outer s H E hr => tm_is_within T (k_is_number base) (by decide) hr) pr_is_within
  obtain ⟨fd_is_way, F0_is_way⟩ := c.def_ 12 (d := d_is_way) rfl
  have F_is_way : FunD K "is_way" "is_way" (defArgs st_is_way) (defBody st_is_way) (defScope st_is_way) [] [] (He.ga K "is_way") fd_is_way := F0_is_way
  clear F0_is_way
  have g_is_way := He.glo_ok X G (c.fact 12 (f := .glo "is_way") rfl)
  have b_is_way : Binds K fd_is_way ["thing", "many"] [] := FunD.bindsN F_is_way fun _ _ _ _ _ _ us hl => match us, hl with | [_, _], _ => rfl
  have k_is_way : ∀ base : Heap, C8.Cal P w K mg base 3 "is_way" (upSp K sp_is_way) [] := fun base => calD F_is_way g_is_way b_is_way sc_is_way len_is_way (fun cdv A outer s H E hr => tm_is_way T (k_is_within base) (by decide) hr) pr_is_way
  obtain ⟨fd_made_net, F0_made_net⟩ := c.def_ 13 (d := d_made_net) rfl
  have F_made_net : FunD K "made_net" "made_net" (defArgs st_made_net) (defBody st_made_net) (defScope st_made_net) [] [] (He.ga K "made_net") fd_made_net := F0_made_net
  clear F0_made_net
  have g_made_net := He.glo_ok X G (c.fact 13 (f := .glo "made_net") rfl)
  have b_made_net : Binds K fd_made_net ["many", "ways"] [] := FunD.bindsN F_made_net fun _ _ _ _ _ _ us hl => match us, hl with | [_, _], _ => rfl
  have k_made_net : ∀ base : Heap, C8.Cal P w K mg base 4 "made_net" (upSp K sp_made_net) [] := fun base => calD F_made_net g_made_net b_made_net sc_made_net len_made_net (fun cdv A outer s H E hr => tm_made_net T (k_is_within base) (by decide) (k_is_way base) (by decide) hr) pr_made_net
  obtain ⟨fd__law_all, F0__law_all⟩ := c.def_ 14 (d := d__law_all) rfl
  have F__law_all : FunD K "_law_all" "_law_all" (defArgs st__law_all) (defBody st__law_all) (defScope st__law_all) [] [] (He.ga K "_law_all") fd__law_all := F0__law_all
  clear F0__law_all
  have g__law_all := He.glo_ok X G (c.fact 14 (f := .glo "_law_all") rfl)
  have b__law_all : Binds K fd__law_all ["script", "many"] [] := FunD.bindsN F__law_all fun _ _ _ _ _ _ us hl => match us, hl with | [_, _], _ => rfl
  have k__law_all : ∀ base : Heap, C8.Cal P w K mg base 1 "_law_all" (upSp K sp_all) [] := fun base => calD F__law_all g__law_all b__law_all sc__law_all len__law_all (fun cdv A outer s H E hr => tm__law_all T  hr) pr_all
  obtain ⟨fd__law_draw, F0__law_draw⟩ := c.def_ 15 (d := d__law_draw) rfl
  have F__law_draw : FunD K "_law_draw" "_law_draw" (defArgs st__law_draw) (defBody st__law_draw) (defScope st__law_draw) [] [] (He.ga K "_law_draw") fd__law_draw := F0__law_draw
  clear F0__law_draw
  have g__law_draw := He.glo_ok X G (c.fact 15 (f := .glo "_law_draw") rfl)
  have b__law_draw : Binds K fd__law_draw ["draws", "at", "many"] [] := FunD.bindsN F__law_draw fun _ _ _ _ _ _ us hl => match us, hl with | [_, _, _], _ => rfl
  have k__law_draw : ∀ base : Heap, C8.Cal P w K mg base 1 "_law_draw" (upSp K sp_draw) [] := fun base => calD F__law_draw g__law_draw b__law_draw sc__law_draw len__law_draw (fun cdv A outer s H E hr => tm__law_draw T  hr) pr_draw
  obtain ⟨fd__law_wide, F0__law_wide⟩ := c.def_ 16 (d := d__law_wide) rfl
  have F__law_wide : FunD K "_law_wide" "_law_wide" (defArgs st__law_wide) (defBody st__law_wide) (defScope st__law_wide) [] [] (He.ga K "_law_wide") fd__law_wide := F0__law_wide
  clear F0__law_wide
  have g__law_wide := He.glo_ok X G (c.fact 16 (f := .glo "_law_wide") rfl)
  have b__law_wide : Binds K fd__law_wide ["draws", "at", "many"] [] := FunD.bindsN F__law_wide fun _ _ _ _ _ _ us hl => match us, hl with | [_, _, _], _ => rfl
  have k__law_wide : ∀ base : Heap, C8.Cal P w K mg base 1 "_law_wide" (upSp K sp_wide) [] := fun base => calD F__law_wide g__law_wide b__law_wide sc__law_wide len__law_wide (fun cdv A outer s H E hr => tm__law_wide T  hr) pr_wide
  obtain ⟨fd__law_net, F0__law_net⟩ := c.def_ 17 (d := d__law_net) rfl
  have F__law_net : FunD K "_law_net" "_law_net" (defArgs st__law_net) (defBody st__law_net) (defScope st__law_net) [] [] (He.ga K "_law_net") fd__law_net := F0__law_net
  clear F0__law_net
  have g__law_net := He.glo_ok X G (c.fact 17 (f := .glo "_law_net") rfl)
  have b__law_net : Binds K fd__law_net ["draws", "at", "places", "most"] [] := FunD.bindsN F__law_net fun _ _ _ _ _ _ us hl => match us, hl with | [_, _, _, _], _ => rfl
  have k__law_net : ∀ base : Heap, C8.Cal P w K mg base 5 "_law_net" (upSp K sp_net) [] := fun base => calD F__law_net g__law_net b__law_net sc__law_net len__law_net (fun cdv A outer s H E hr => tm__law_net T (k__law_draw base) (by decide) (k__law_wide base) (by decide) (k_made_net base) (by decide) hr) pr_net
  obtain ⟨fd__law_due, F0__law_due⟩ := c.def_ 18 (d := d__law_due) rfl
  have F__law_due : FunD K "_law_due" "_law_due" (defArgs st__law_due) (defBody st__law_due) (defScope st__law_due) [] [] (He.ga K "_law_due") fd__law_due := F0__law_due
  clear F0__law_due
  have g__law_due := He.glo_ok X G (c.fact 18 (f := .glo "_law_due") rfl)
  have b__law_due : Binds K fd__law_due ["net", "forth", "back"] [] := FunD.bindsN F__law_due fun _ _ _ _ _ _ us hl => match us, hl with | [_, _, _], _ => rfl
  have k__law_due : ∀ base : Heap, C8.Cal P w K mg base 1 "_law_due" (upSp K sp_due) [] := fun base => calD F__law_due g__law_due b__law_due sc__law_due len__law_due (fun cdv A outer s H E hr => tm__law_due T  hr) pr_due
  obtain ⟨fd__law_heard, F0__law_heard⟩ := c.def_ 19 (d := d__law_heard) rfl
  have F__law_heard : FunD K "_law_heard" "_law_heard" (defArgs st__law_heard) (defBody st__law_heard) (defScope st__law_heard) [] [] (He.ga K "_law_heard") fd__law_heard := F0__law_heard
  clear F0__law_heard
  have g__law_heard := He.glo_ok X G (c.fact 19 (f := .glo "_law_heard") rfl)
  have b__law_heard : Binds K fd__law_heard ["net", "forth", "way"] [] := FunD.bindsN F__law_heard fun _ _ _ _ _ _ us hl => match us, hl with | [_, _, _], _ => rfl
  have k__law_heard : ∀ base : Heap, C8.Cal P w K mg base 4 "_law_heard" (upSp K sp_heard) [] := fun base => calD F__law_heard g__law_heard b__law_heard sc__law_heard len__law_heard (fun cdv A outer s H E hr => tm__law_heard T (k_open_net base) (by decide) (k_laned_net base) (by decide) (k_best_forth base) (by decide) (k_forth_right base) (by decide) hr) (pr_heard Ex0)
  obtain ⟨fd__law_bad, F0__law_bad⟩ := c.def_ 20 (d := d__law_bad) rfl
  have F__law_bad : FunD K "_law_bad" "_law_bad" (defArgs st__law_bad) (defBody st__law_bad) (defScope st__law_bad) [] [] (He.ga K "_law_bad") fd__law_bad := F0__law_bad
  clear F0__law_bad
  have g__law_bad := He.glo_ok X G (c.fact 20 (f := .glo "_law_bad") rfl)
  have b__law_bad : Binds K fd__law_bad ["draws", "at", "net", "forth"] [] := FunD.bindsN F__law_bad fun _ _ _ _ _ _ us hl => match us, hl with | [_, _, _, _], _ => rfl
  have k__law_bad : ∀ base : Heap, C8.Cal P w K mg base 2 "_law_bad" (upSp K sp_bad) [] := fun base => calD F__law_bad g__law_bad b__law_bad sc__law_bad len__law_bad (fun cdv A outer s H E hr => tm__law_bad T (k__law_draw base) (by decide) hr) pr_bad
  obtain ⟨fd__law_wider, F0__law_wider⟩ := c.def_ 21 (d := d__law_wider) rfl
  have F__law_wider : FunD K "_law_wider" "_law_wider" (defArgs st__law_wider) (defBody st__law_wider) (defScope st__law_wider) [] [] (He.ga K "_law_wider") fd__law_wider := F0__law_wider
  clear F0__law_wider
  have g__law_wider := He.glo_ok X G (c.fact 21 (f := .glo "_law_wider") rfl)
  have b__law_wider : Binds K fd__law_wider ["draws", "net"] [] := FunD.bindsN F__law_wider fun _ _ _ _ _ _ us hl => match us, hl with | [_, _], _ => rfl
  have k__law_wider : ∀ base : Heap, C8.Cal P w K mg base 5 "_law_wider" (upSp K sp_wider) [] := fun base => calD F__law_wider g__law_wider b__law_wider sc__law_wider len__law_wider (fun cdv A outer s H E hr => tm__law_wider T (k__law_draw base) (by decide) (k_made_net base) (by decide) hr) pr_wider
  obtain ⟨fd_law, F0_law⟩ := c.def_ 22 (d := d_law) rfl
  have F_law : FunD K "law" "law" (defArgs st_law) (defBody st_law) (defScope st_law) [] [] (He.ga K "law") fd_law := F0_law
  clear F0_law
  have g_law := He.glo_ok X G (c.fact 22 (f := .glo "law") rfl)
  have e := hfa.symm.trans g_law
  cases e
  have b := FunD.bindsA (ps := ["script"]) F_law fun _ _ _ _ _ _ us hl => match us, hl with | [_], _ => rfl
  exact ⟨fd_law, fun s v => b s [v] rfl, fun base _ _ => okD F_law sc_law len_law (fun cdv A outer s H E hr => tm_law T (k__law_all base) (by decide) (k__law_net base) (by decide) (k_open_net base) (by decide) (k__law_due base) (by decide) (k__law_wide base) (by decide) (k_laned_net base) (by decide) (k__law_bad base) (by decide) (k__law_heard base) (by decide) (k_forth_right base) (by decide) (k__law_wider base) (by decide) hr) pr_law⟩
end Lw
open PySem PySem.W PySem.Calls PyProof.Rows
theorem PySem.Challenge.cw_hourhaul_k85_nets_laned_and_open_holds : PySem.Challenge.rw_hourhaul_k85_nets_laned_and_open.Holds := by
  w_on; o_law
  refine HandSHeadRun.head_any (r := OpenLaw.row PySem.Challenge.rw_hourhaul_k85_nets_laned_and_open) (q := view (OpenLaw.row PySem.Challenge.rw_hourhaul_k85_nets_laned_and_open).prog [44]) (H := Lw.hk) (ob := Lw.ob) (M := 3000) (loose := Lw.loose) (d := HandSHeadRun.topDef (OpenLaw.row PySem.Challenge.rw_hourhaul_k85_nets_laned_and_open).prog 44) (kwd := []) Lw.ob_eq
    (by kernel_rfl) (fun s => by kernel_rfl) Lw.run (by kernel_rfl) (by kernel_rfl) (by kernel_rfl) (by rfl) (by first | assumption | decide +kernel) (by decide +kernel) ⟨rfl, rfl, rfl, rfl, rfl, by decide +kernel⟩ ?hw ?hc
  case hw => w_witness2
  case hc =>
    refine L2.walk_ofE (l := PySem.Challenge.rw_hourhaul_k85_nets_laned_and_open) (n := 63) (k := 6) (x := "script") (CX := L2.CX0) rfl (by decide) (by kernel_rfl) ⟨rfl, by decide, by decide⟩ ?F (fun _ _ _ _ z => z)
    intro w mg fa h Y G hmg0
    obtain ⟨K, KX, c, cx⟩ := Y
    have hmg : mg ("law" : PySem.Str) = some (.ref fa) := by
      have e : (HandSHeadRun.topDef (OpenLaw.row PySem.Challenge.rw_hourhaul_k85_nets_laned_and_open).prog 44).name = ("law" : PySem.Str) := by kernel_rfl
      rw [← e]
      exact hmg0
    obtain ⟨fd, hb, hF⟩ := Lw.facts (P := (PySem.Challenge.rw_hourhaul_k85_nets_laned_and_open).prog) (w := w) KX G hmg c cx
    exact ⟨K, fd, DL.upSp K Lw.sp_law, KX, hb, fun H a ns hl _ hS => DL.script_up hS fun QD q => ⟨ns, rfl, hl, fun h' => q _ h' rfl⟩, hF⟩
#print axioms PySem.Challenge.cw_hourhaul_k85_nets_laned_and_open_holds

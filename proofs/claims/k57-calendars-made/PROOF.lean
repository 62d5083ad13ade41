import PyProof.Rows.All
import Wide.All
import OpenK.AllK
import Wide.FinOn
import HandS.ForMost
import HandS.ForExc
import HandS.Evl
import HandS.Conv
import HandS.TupMul
import HandS.TupAny
import HandS.IsInst
import HandS.Wide
import HandS.Flow
import HandS.Deep
import HandS.Style
import HandS.Steps
import HandS.Zip
import HandS.Codes
import HandS.RevTup
import KE.KStateDown
import HandS.More
import HandS.Defaults
import HandS.Head0
import HandS.Head1
import HandS.Head2
import HandS.HeadEnd
import HandS.HeadHook1
import HandS.HeadHook2
import PySem.Challenge.RW_hourhaul_k57_calendars_made
set_option Elab.async false
set_option linter.all false
set_option maxRecDepth 100000
set_option maxHeartbeats 2000000
/-! DL: a calculus over plain data (tuples and frozen lists as values), above the readings of HandS. -/
namespace DL
open PySem L2
open Evl (Ex)

inductive D where
  | non | bl (b : Bool) | int (i : Int) | str (x : Str) | ty (n : String) | ref (a : Addr)
  | tup (ds : List D) | lst (ds : List D) | rd (ds : List D)

inductive DO where
  | lst (ds : List D)
  | ins (C dx : Addr) (fs : List (Str × D))
  | xd (fs : List (Str × D))
  | dK (kvs : List (Key × D))
  | dT (kvs : List (List Key × D))
  | own (x : Addr)

abbrev DH := Addr → Option DO
abbrev DSt := List (Option D)
abbrev DK := D → DH → Prop
def dupd (h : DH) (a : Addr) (o : DO) : DH := fun b => if b = a then some o else h b
theorem du_same {h : DH} {a : Addr} {o : DO} : dupd h a o a = some o := by unfold dupd; rw [if_pos rfl]
theorem du_ne {h : DH} {a b : Addr} {o : DO} (e : b ≠ a) : dupd h a o b = h b := by unfold dupd; rw [if_neg e]
theorem du_du {h : DH} {a : Addr} {o u : DO} : dupd (dupd h a o) a u = dupd h a u := by
  funext b; unfold dupd; split <;> rfl
theorem dne_none {h : DH} {a b : Addr} {o : DO} (e : h a = some o) (e' : h b = none) : a ≠ b := by
  intro z; subst z; rw [e] at e'; cases e'
/-- a fresh one is none of the others -/
theorem dfresh_ne {h : DH} {a b : Addr} {o : DO} (e : dupd h a o b = none) : b ≠ a := by
  intro z; subst z; rw [du_same] at e; cases e
theorem dfresh_of {h : DH} {a b : Addr} {o : DO} (e : dupd h a o b = none) : h b = none := by
  rw [du_ne (dfresh_ne e)] at e; exact e

mutual
inductive Rp (K : PySem.W.Frag) (G : Hp) : D → V → Prop
  | non : Rp K G .non .non
  | bl (b : Bool) : Rp K G (.bl b) (.bl b)
  | int (i : Int) : Rp K G (.int i) (.int i)
  | str (x : Str) : Rp K G (.str x) (.str x)
  | ty (n : String) : Rp K G (.ty n) (.ty n)
  | ref (a : Addr) : Rp K G (.ref a) (.ref a)
  | tup {a : Addr} {vs : List V} {ds : List D} (h : SqT K G a vs) (r : Rps K G ds vs) : Rp K G (.tup ds) (.ref a)
  | lst {a : Addr} {vs : List V} {ds : List D} (h : G a = some (.lst vs)) (r : Rps K G ds vs) : Rp K G (.lst ds) (.ref a)
  | rd {a : Addr} {vs : List V} {ds : List D} (h : SqL K G a vs) (r : Rps K G ds vs) : Rp K G (.rd ds) (.ref a)
inductive Rps (K : PySem.W.Frag) (G : Hp) : List D → List V → Prop
  | nil : Rps K G [] []
  | cons {d : D} {v : V} {ds : List D} {vs : List V} (h : Rp K G d v) (r : Rps K G ds vs) : Rps K G (d :: ds) (v :: vs)
end

section
variable {K : PySem.W.Frag} {G G' G2 : Hp}
mutual
theorem Rp.mono (e : Ex G G') : ∀ {d : D} {v : V}, Rp K G d v → Rp K G' d v
  | _, _, .non => .non
  | _, _, .bl b => .bl b
  | _, _, .int i => .int i
  | _, _, .str x => .str x
  | _, _, .ty n => .ty n
  | _, _, .ref a => .ref a
  | _, _, .tup h r => .tup (Evl.ex_t e h) (Rps.mono e r)
  | _, _, .lst h r => .lst (e _ _ h) (Rps.mono e r)
  | _, _, .rd h r => .rd (Evl.ex_l e h) (Rps.mono e r)
theorem Rps.mono (e : Ex G G') : ∀ {ds : List D} {vs : List V}, Rps K G ds vs → Rps K G' ds vs
  | _, _, .nil => .nil
  | _, _, .cons h r => .cons (Rp.mono e h) (Rps.mono e r)
end
theorem Rps.length : ∀ {ds : List D} {vs : List V}, Rps K G ds vs → ds.length = vs.length
  | _, _, .nil => rfl
  | _, _, .cons _ r => by rw [List.length_cons, List.length_cons, Rps.length r]
theorem Rps.get : ∀ {ds : List D} {vs : List V} {i : Nat} {d : D}, Rps K G ds vs → ds[i]? = some d → ∃ v, vs[i]? = some v ∧ Rp K G d v
  | _, _, _, _, .nil, e => by simp at e
  | _, _, 0, _, .cons h _, e => by simp at e; subst e; exact ⟨_, rfl, h⟩
  | _, _, i + 1, d, .cons _ r, e => by
    obtain ⟨v, h1, h2⟩ := Rps.get (i := i) (d := d) r (by simpa using e)
    exact ⟨v, by simpa using h1, h2⟩
theorem Rps.getv : ∀ {ds : List D} {vs : List V} {i : Nat} {v : V}, Rps K G ds vs → vs[i]? = some v → ∃ d, ds[i]? = some d ∧ Rp K G d v
  | _, _, _, _, .nil, e => by simp at e
  | _, _, 0, _, .cons h _, e => by simp at e; subst e; exact ⟨_, rfl, h⟩
  | _, _, i + 1, v, .cons _ r, e => by
    obtain ⟨d, h1, h2⟩ := Rps.getv (i := i) (v := v) r (by simpa using e)
    exact ⟨d, by simpa using h1, h2⟩
theorem Rps.append : ∀ {ds es : List D} {vs ws : List V}, Rps K G ds vs → Rps K G es ws → Rps K G (ds ++ es) (vs ++ ws)
  | _, _, _, _, .nil, s => s
  | _, _, _, _, .cons h r, s => .cons h (Rps.append r s)
theorem Rps.set {d : D} {v : V} (h : Rp K G d v) : ∀ {ds : List D} {vs : List V} (i : Nat), Rps K G ds vs → Rps K G (ds.set i d) (vs.set i v)
  | _, _, _, .nil => .nil
  | _, _, 0, .cons _ r => .cons h r
  | _, _, i + 1, .cons q r => .cons q (Rps.set h i r)
theorem Rps.take : ∀ {ds : List D} {vs : List V} (n : Nat), Rps K G ds vs → Rps K G (ds.take n) (vs.take n)
  | _, _, 0, _ => .nil
  | _, _, _ + 1, .nil => .nil
  | _, _, n + 1, .cons h r => .cons h (Rps.take n r)
theorem Rps.drop : ∀ {ds : List D} {vs : List V} (n : Nat), Rps K G ds vs → Rps K G (ds.drop n) (vs.drop n)
  | _, _, 0, r => r
  | _, _, _ + 1, .nil => .nil
  | _, _, n + 1, .cons _ r => Rps.drop n r
theorem Rps.rev : ∀ {ds : List D} {vs : List V}, Rps K G ds vs → Rps K G ds.reverse vs.reverse
  | _, _, .nil => .nil
  | _, _, .cons h r => by rw [List.reverse_cons, List.reverse_cons]; exact (Rps.rev r).append (.cons h .nil)
theorem Rps.at {ds : List D} {vs : List V} {i : Int} {d : D} (r : Rps K G ds vs) (e : atI ds i = some d) : ∃ v, atI vs i = some v ∧ Rp K G d v := by
  unfold atI at e ⊢
  rw [← r.length]
  cases q : ixN ds.length i with
  | none => rw [q] at e; cases e
  | some j =>
    rw [q] at e
    exact r.get e
theorem Rps.nil_iff {ds : List D} {vs : List V} (r : Rps K G ds vs) : vs = [] ↔ ds = [] := by
  cases r with
  | nil => simp
  | cons _ _ => simp
theorem Rps.ints : ∀ {ns : List Int} {vs : List V}, Rps K G (ns.map D.int) vs → vs = ns.map V.int
  | [], _, .nil => rfl
  | n :: ns, _, .cons (.int _) r => by rw [Rps.ints r]; rfl
theorem Rps.bls : ∀ {ns : List Bool} {vs : List V}, Rps K G (ns.map D.bl) vs → vs = ns.map V.bl
  | [], _, .nil => rfl
  | n :: ns, _, .cons (.bl _) r => by rw [Rps.bls r]; rfl
theorem Rps.of_ints : ∀ (ns : List Int), Rps K G (ns.map D.int) (ns.map V.int)
  | [] => .nil
  | n :: ns => .cons (.int n) (Rps.of_ints ns)
end

/-- fields, by name -/
def RpF (K : PySem.W.Frag) (G : Hp) (fs : List (Str × D)) (gs : List (Str × V)) : Prop := Paired (fun (p : Str × D) (q : Str × V) => p.1 = q.1 ∧ Rp K G p.2 q.2) fs gs
def RpK {κ : Type} (K : PySem.W.Frag) (G : Hp) (fs : List (κ × D)) (gs : List (κ × V)) : Prop := Paired (fun (p : κ × D) (q : κ × V) => p.1 = q.1 ∧ Rp K G p.2 q.2) fs gs
def RpO (K : PySem.W.Frag) (G : Hp) : DO → HO → Prop
  | .lst ds, .lst vs => Rps K G ds vs
  | .ins C dx fs, .ins C' dx' gs => C = C' ∧ dx = dx' ∧ RpF K G fs gs
  | .xd fs, .xd gs => RpF K G fs gs
  | .dK fs, .dK gs => RpK K G fs gs
  | .dT fs, .dT gs => RpK K G fs gs
  | .own x, .own y => x = y
  | _, _ => False
theorem Paired.imp2 {α β : Type} {R S : α → β → Prop} (h : ∀ a b, R a b → S a b) : ∀ {xs : List α} {ys : List β}, Paired R xs ys → Paired S xs ys
  | _, _, .nil => .nil
  | _, _, .cons r t => .cons (h _ _ r) (Paired.imp2 h t)
theorem RpK.mono {κ : Type} {K : PySem.W.Frag} {G G' : Hp} (e : Ex G G') {fs : List (κ × D)} {gs : List (κ × V)} (h : RpK K G fs gs) : RpK K G' fs gs := Paired.imp2 (fun _ _ r => ⟨r.1, r.2.mono e⟩) h
theorem RpO.mono {K : PySem.W.Frag} {G G' : Hp} (e : Ex G G') {o : DO} {u : HO} (h : RpO K G o u) : RpO K G' o u := by
  cases o <;> cases u <;> first | exact h.elim | skip
  · exact Rps.mono e h
  · exact ⟨h.1, h.2.1, Paired.imp2 (fun _ _ r => ⟨r.1, r.2.mono e⟩) h.2.2⟩
  · exact Paired.imp2 (fun _ _ r => ⟨r.1, r.2.mono e⟩) h
  · exact RpK.mono e h
  · exact RpK.mono e h
  · exact h
theorem rpo_lst {K : PySem.W.Frag} {G : Hp} {ds : List D} {u : HO} (h : RpO K G (.lst ds) u) : ∃ vs, u = .lst vs ∧ Rps K G ds vs := by
  cases u <;> first | exact h.elim | skip
  exact ⟨_, rfl, h⟩
theorem rpo_ins {K : PySem.W.Frag} {G : Hp} {C dx : Addr} {fs : List (Str × D)} {u : HO} (h : RpO K G (.ins C dx fs) u) : ∃ gs, u = .ins C dx gs ∧ RpF K G fs gs := by
  cases u <;> first | exact h.elim | skip
  obtain ⟨rfl, rfl, h⟩ := h
  exact ⟨_, rfl, h⟩
theorem rpo_xd {K : PySem.W.Frag} {G : Hp} {fs : List (Str × D)} {u : HO} (h : RpO K G (.xd fs) u) : ∃ gs, u = .xd gs ∧ RpF K G fs gs := by
  cases u <;> first | exact h.elim | skip
  exact ⟨_, rfl, h⟩
theorem rpo_dK {K : PySem.W.Frag} {G : Hp} {fs : List (Key × D)} {u : HO} (h : RpO K G (.dK fs) u) : ∃ gs, u = .dK gs ∧ RpK K G fs gs := by
  cases u <;> first | exact h.elim | skip
  exact ⟨_, rfl, h⟩
theorem rpo_dT {K : PySem.W.Frag} {G : Hp} {fs : List (List Key × D)} {u : HO} (h : RpO K G (.dT fs) u) : ∃ gs, u = .dT gs ∧ RpK K G fs gs := by
  cases u <;> first | exact h.elim | skip
  exact ⟨_, rfl, h⟩

/-- G: what is frozen; F: what others hold; h: what is owned -/
structure RH (K : PySem.W.Frag) (G F : Hp) (h : DH) (H : Hp) : Prop where
  ex : Ex G H
  fr : ∀ a o, F a = some o → G a = none ∧ h a = none ∧ H a = some o
  own : ∀ a o, h a = some o → G a = none ∧ ∃ u, H a = some u ∧ RpO K G o u
inductive RpM (K : PySem.W.Frag) (G : Hp) : Option D → Option V → Prop
  | some {d : D} {v : V} (h : Rp K G d v) : RpM K G (some d) (some v)
  | none {v : Option V} : RpM K G none v
abbrev Sl (K : PySem.W.Frag) (G : Hp) : DSt → L2.St → Prop := Paired (RpM K G)
theorem RpM.mono {K : PySem.W.Frag} {G G' : Hp} (e : Ex G G') {d : Option D} {v : Option V} : RpM K G d v → RpM K G' d v
  | .some h => .some (h.mono e)
  | .none => .none
theorem sl_mono {K : PySem.W.Frag} {G G' : Hp} (e : Ex G G') {δ : DSt} {σ : L2.St} (h : Sl K G δ σ) : Sl K G' δ σ := Paired.imp2 (fun _ _ r => r.mono e) h
theorem sl_get {K : PySem.W.Frag} {G : Hp} : ∀ {δ : DSt} {σ : L2.St} {i : Nat} {d : D}, Sl K G δ σ → δ[i]? = some (some d) → ∃ v, σ[i]? = some (some v) ∧ Rp K G d v
  | _, _, _, _, .nil, e => by simp at e
  | _, _, 0, _, .cons h _, e => by
    simp at e; subst e
    cases h with
    | some h => exact ⟨_, rfl, h⟩
  | _, _, i + 1, d, .cons _ r, e => by
    obtain ⟨v, h1, h2⟩ := sl_get (i := i) (d := d) r (by simpa using e)
    exact ⟨v, by simpa using h1, h2⟩
theorem sl_set {K : PySem.W.Frag} {G : Hp} {d : Option D} {v : Option V} (h : RpM K G d v) : ∀ {δ : DSt} {σ : L2.St} (i : Nat), Sl K G δ σ → Sl K G (δ.set i d) (σ.set i v)
  | _, _, _, .nil => .nil
  | _, _, 0, .cons _ r => .cons h r
  | _, _, i + 1, .cons q r => .cons q (sl_set h i r)

section
variable {K : PySem.W.Frag} {G G' F H H' : Hp} {h h' : DH}
/-- one more frozen thing -/
theorem RH.grow (r : RH K G F h H) {p : Addr} (hp : H p = none) (u : HO) : Ex G (upd G p u) ∧ RH K (upd G p u) F h (upd H p u) ∧ upd G p u p = some u ∧ G p = none ∧ h p = none ∧ F p = none := by
  have gp : G p = none := Evl.fresh_back r.ex hp
  have hh : h p = none := by
    cases e : h p with
    | none => rfl
    | some o =>
      obtain ⟨_, u', e2, _⟩ := r.own p o e
      rw [hp] at e2; cases e2
  have hf : F p = none := by
    cases e : F p with
    | none => rfl
    | some o =>
      obtain ⟨_, _, e2⟩ := r.fr p o e
      rw [hp] at e2; cases e2
  have ex : Ex G (upd G p u) := Ex.new gp
  refine ⟨ex, ⟨fun a o e => ?_, fun a o e => ?_, fun a o e => ?_⟩, upd_same, gp, hh, hf⟩
  · by_cases z : a = p
    · subst z; rw [upd_same] at e ⊢; exact e
    · rw [upd_ne z] at e ⊢; exact r.ex a o e
  · obtain ⟨e1, e2, e3⟩ := r.fr a o e
    have z : a ≠ p := ne_of_none e3 hp
    rw [upd_ne z, upd_ne z]; exact ⟨e1, e2, e3⟩
  · obtain ⟨e1, u', e2, e3⟩ := r.own a o e
    have z : a ≠ p := ne_of_none e2 hp
    rw [upd_ne z, upd_ne z]; exact ⟨e1, u', e2, e3.mono ex⟩
/-- one more owned thing -/
theorem RH.alloc (r : RH K G F h H) {p : Addr} (hp : H p = none) {o : DO} {u : HO} (ru : RpO K G o u) : h p = none ∧ RH K G F (dupd h p o) (upd H p u) := by
  obtain ⟨_, _, _, gp, hh, hf⟩ := r.grow hp u
  refine ⟨hh, ⟨fun a o e => ?_, fun a o e => ?_, fun a o e => ?_⟩⟩
  · rw [upd_ne (ne_of_none e gp)]; exact r.ex a o e
  · obtain ⟨e1, e2, e3⟩ := r.fr a o e
    have z : a ≠ p := ne_of_none e3 hp
    rw [upd_ne z, du_ne z]; exact ⟨e1, e2, e3⟩
  · by_cases z : a = p
    · subst z; rw [du_same] at e; cases e
      exact ⟨gp, u, upd_same, ru⟩
    · rw [du_ne z] at e
      rw [upd_ne z]; exact r.own a o e
/-- an owned thing is changed -/
theorem RH.write (r : RH K G F h H) {p : Addr} {o' : DO} (hp : h p = some o') {o : DO} {u : HO} (ru : RpO K G o u) : RH K G F (dupd h p o) (upd H p u) := by
  obtain ⟨gp, u0, _, _⟩ := r.own p o' hp
  refine ⟨fun a o e => ?_, fun a o e => ?_, fun a o e => ?_⟩
  · rw [upd_ne (ne_of_none e gp)]; exact r.ex a o e
  · obtain ⟨e1, e2, e3⟩ := r.fr a o e
    have z : a ≠ p := fun z => by subst z; rw [hp] at e2; cases e2
    rw [upd_ne z, du_ne z]; exact ⟨e1, e2, e3⟩
  · by_cases z : a = p
    · subst z; rw [du_same] at e; cases e
      exact ⟨gp, u, upd_same, ru⟩
    · rw [du_ne z] at e
      rw [upd_ne z]; exact r.own a o e
end

/-! ### what is wanted -/
def LV (K : PySem.W.Frag) (G F : Hp) (Q : DK) : VK := fun v H' => ∃ G' d h', Ex G G' ∧ RH K G' F h' H' ∧ Rp K G' d v ∧ Q d h'
def LB (K : PySem.W.Frag) (G F : Hp) (Q : Bool → DH → Prop) (b : Bool) (H' : Hp) : Prop := ∃ G' h', Ex G G' ∧ RH K G' F h' H' ∧ Q b h'
def LA (K : PySem.W.Frag) (G F : Hp) (Q : List D → DH → Prop) (vs : List V) (H' : Hp) : Prop := ∃ G' ds h', Ex G G' ∧ RH K G' F h' H' ∧ Rps K G' ds vs ∧ Q ds h'
def LS (K : PySem.W.Frag) (G F : Hp) (Q : DSt → DH → Prop) (σ' : L2.St) (H' : Hp) : Prop := ∃ G' δ' h', Ex G G' ∧ RH K G' F h' H' ∧ Sl K G' δ' σ' ∧ Q δ' h'

def dE (K : PySem.W.Frag) (te : TE) (δ : DSt) (h : DH) (Q : DK) : Prop := ∀ G F σ H, RH K G F h H → Sl K G δ σ → ∀ QV : VK, (∀ v H', LV K G F Q v H' → QV v H') → te σ H QV
def dT (K : PySem.W.Frag) (tt : TT) (δ : DSt) (h : DH) (Q : Bool → DH → Prop) : Prop := ∀ G F σ H, RH K G F h H → Sl K G δ σ → ∀ QV : Bool → Hp → Prop, (∀ b H', LB K G F Q b H' → QV b H') → tt σ H QV
def dA (K : PySem.W.Frag) (ta : TA) (δ : DSt) (h : DH) (Q : List D → DH → Prop) : Prop := ∀ G F σ H, RH K G F h H → Sl K G δ σ → ∀ QV : List V → Hp → Prop, (∀ vs H', LA K G F Q vs H' → QV vs H') → ta σ H QV
/-- by values -/
def dR (K : PySem.W.Frag) (r : R2) (x y : D) (h : DH) (Q : DK) : Prop := ∀ G F H vx vy, RH K G F h H → Rp K G x vx → Rp K G y vy → ∀ QV : VK, (∀ v H', LV K G F Q v H' → QV v H') → r vx vy H QV
def dU (K : PySem.W.Frag) (r : V → Hp → VK → Prop) (x : D) (h : DH) (Q : DK) : Prop := ∀ G F H vx, RH K G F h H → Rp K G x vx → ∀ QV : VK, (∀ v H', LV K G F Q v H' → QV v H') → r vx H QV
def dC (K : PySem.W.Frag) (r : List V → Hp → VK → Prop) (xs : List D) (h : DH) (Q : DK) : Prop := ∀ G F H vs, RH K G F h H → Rps K G xs vs → ∀ QV : VK, (∀ v H', LV K G F Q v H' → QV v H') → r vs H QV
def dM (K : PySem.W.Frag) (r : V → List V → Hp → VK → Prop) (x : D) (xs : List D) (h : DH) (Q : DK) : Prop := ∀ G F H vx vs, RH K G F h H → Rp K G x vx → Rps K G xs vs → ∀ QV : VK, (∀ v H', LV K G F Q v H' → QV v H') → r vx vs H QV
def dG (K : PySem.W.Frag) (g : TG) (x : D) (δ : DSt) (h : DH) (Q : DSt → DH → Prop) : Prop := ∀ G F σ H vx, RH K G F h H → Sl K G δ σ → Rp K G x vx → ∀ QV : L2.St → Hp → Prop, (∀ σ' H', LS K G F Q σ' H' → QV σ' H') → g vx σ H QV
def dGs (K : PySem.W.Frag) (g : TGs) (xs : List D) (δ : DSt) (h : DH) (Q : DSt → DH → Prop) : Prop := ∀ G F σ H vs, RH K G F h H → Sl K G δ σ → Rps K G xs vs → ∀ QV : L2.St → Hp → Prop, (∀ σ' H', LS K G F Q σ' H' → QV σ' H') → g vs σ H QV
structure DEnds where
  nx : DSt → DH → Prop
  rt : DK
  bk : DSt → DH → Prop
  ct : DSt → DH → Prop
def LD (K : PySem.W.Frag) (G F : Hp) (E : DEnds) (Z : Ends) : Prop :=
  (∀ σ' H', LS K G F E.nx σ' H' → Z.nx σ' H') ∧ (∀ v H', LV K G F E.rt v H' → Z.rt v H') ∧ (∀ σ' H', LS K G F E.bk σ' H' → Z.bk σ' H') ∧ (∀ σ' H', LS K G F E.ct σ' H' → Z.ct σ' H')
def dS0 (K : PySem.W.Frag) (ts : TS) (E : DEnds) (δ : DSt) (h : DH) : Prop := ∀ G F σ H, RH K G F h H → Sl K G δ σ → ∀ Z : Ends, LD K G F E Z → ts Z σ H
abbrev DP := DSt → DH → Prop
/-- a statement: what follows, what is handed back, behind a break, behind a continue -/
def dS (K : PySem.W.Frag) (ts : TS) (nx : DP) (rt : DK) (bk ct : DP) (δ : DSt) (h : DH) : Prop := dS0 K ts ⟨nx, rt, bk, ct⟩ δ h
end DL
set_option maxHeartbeats 2000000
/-! DL: the rules. -/
namespace DL
open PySem L2
open Evl (Ex)
section
variable {K : PySem.W.Frag} {G G' F H H' : Hp} {h h' : DH} {Q : DK} {δ : DSt} {d x y z : D} {ds xs : List D} {ta tb tc te tl : TE} {t u c : TT} {E : DEnds} {ts tu tw : TS} {a p : Addr} {i : Nat} {r r' : R2}

theorem LV.up (e : Ex G G') {v : V} (l : LV K G' F Q v H) : LV K G F Q v H := by
  obtain ⟨G2, d, h2, e2, q⟩ := l
  exact ⟨G2, d, h2, e.trans e2, q⟩
theorem LB.up {Q : Bool → DH → Prop} (e : Ex G G') {v : Bool} (l : LB K G' F Q v H) : LB K G F Q v H := by
  obtain ⟨G2, h2, e2, q⟩ := l
  exact ⟨G2, h2, e.trans e2, q⟩
theorem LA.up {Q : List D → DH → Prop} (e : Ex G G') {v : List V} (l : LA K G' F Q v H) : LA K G F Q v H := by
  obtain ⟨G2, d, h2, e2, q⟩ := l
  exact ⟨G2, d, h2, e.trans e2, q⟩
theorem LS.up {Q : DSt → DH → Prop} (e : Ex G G') {v : L2.St} (l : LS K G' F Q v H) : LS K G F Q v H := by
  obtain ⟨G2, d, h2, e2, q⟩ := l
  exact ⟨G2, d, h2, e.trans e2, q⟩
theorem LD.up (e : Ex G G') {Z : Ends} (l : LD K G F E Z) : LD K G' F E Z :=
  ⟨fun s H q => l.1 s H (q.up e), fun s H q => l.2.1 s H (q.up e), fun s H q => l.2.2.1 s H (q.up e), fun s H q => l.2.2.2 s H (q.up e)⟩
/-- a value, nothing else new -/
theorem LV.of (r : RH K G F h H) {v : V} (rv : Rp K G d v) (q : Q d h) : LV K G F Q v H := ⟨G, d, h, Ex.refl G, r, rv, q⟩

/-! ### expressions -/
theorem e_var (e : δ[i]? = some (some d)) (q : Q d h) : dE K (tVar i) δ h Q := fun G F σ H r s QV k => by
  obtain ⟨v, h1, h2⟩ := sl_get s e
  exact ⟨v, h1, k v H (.of r h2 q)⟩
theorem e_c {v : V} (e : ∀ G, Rp K G d v) (q : Q d h) : dE K (tC v) δ h Q := fun G F σ H r s QV k => k v H (.of r (e G) q)
theorem e_int {n : Int} (q : Q (.int n) h) : dE K (tC (.int n)) δ h Q := e_c (fun _ => .int n) q
theorem e_bl {n : Bool} (q : Q (.bl n) h) : dE K (tC (.bl n)) δ h Q := e_c (fun _ => .bl n) q
theorem e_non (q : Q .non h) : dE K (tC .non) δ h Q := e_c (fun _ => .non) q
theorem e_str {n : Str} (q : Q (.str n) h) : dE K (tC (.str n)) δ h Q := e_c (fun _ => .str n) q
theorem e_ty {n : String} (q : Q (.ty n) h) : dE K (tC (.ty n)) δ h Q := e_c (fun _ => .ty n) q
theorem e_op (ha : dE K ta δ h (fun x h1 => dE K tb δ h1 (fun y h2 => dR K r x y h2 Q))) : dE K (tOp r ta tb) δ h Q := fun G F σ H rh sl QV k => by
  refine ha G F σ H rh sl _ ?_
  rintro v H1 ⟨G1, d, h1, e1, rh1, rv, q⟩
  refine q G1 F σ H1 rh1 (sl_mono e1 sl) _ ?_
  rintro w H2 ⟨G2, d2, h2, e2, rh2, rw, q2⟩
  exact q2 G2 F H2 v w rh2 (rv.mono e2) rw QV fun z H3 l => k z H3 (l.up (e1.trans e2))
theorem e_un {r : V → Hp → VK → Prop} (ha : dE K ta δ h (fun x h1 => dU K r x h1 Q)) : dE K (tUn r ta) δ h Q := fun G F σ H rh sl QV k => by
  refine ha G F σ H rh sl _ ?_
  rintro v H1 ⟨G1, d, h1, e1, rh1, rv, q⟩
  exact q G1 F H1 v rh1 rv QV fun z H3 l => k z H3 (l.up e1)
theorem e_then {r : V → Hp → VK → Prop} (ha : dE K ta δ h (fun x h1 => dU K r x h1 Q)) : dE K (tThen ta r) δ h Q := e_un (r := r) ha
theorem a_nil {Q : List D → DH → Prop} (q : Q [] h) : dA K tNil δ h Q := fun G F σ H rh sl QV k => k [] H ⟨G, [], h, Ex.refl G, rh, .nil, q⟩
theorem a_cons {tr : TA} {Q : List D → DH → Prop} (ha : dE K ta δ h (fun x h1 => dA K tr δ h1 (fun xs h2 => Q (x :: xs) h2))) : dA K (tCons ta tr) δ h Q := fun G F σ H rh sl QV k => by
  refine ha G F σ H rh sl _ ?_
  rintro v H1 ⟨G1, d, h1, e1, rh1, rv, q⟩
  refine q G1 F σ H1 rh1 (sl_mono e1 sl) _ ?_
  rintro w H2 ⟨G2, d2, h2, e2, rh2, rw, q2⟩
  exact k _ H2 ⟨G2, _, h2, e1.trans e2, rh2, .cons (rv.mono e2) rw, q2⟩
/-- a new tuple -/
theorem e_tup {ta : TA} (ha : dA K ta δ h (fun xs h1 => xs.length ≤ 100000 ∧ Q (.tup xs) h1)) : dE K (tTup ta) δ h Q := fun G F σ H rh sl QV k => by
  refine ha G F σ H rh sl _ ?_
  rintro vs H1 ⟨G1, ds, h1, e1, rh1, rv, hl, q⟩
  refine ⟨Evl.sz_of (by rw [← rv.length]; exact hl), fun p hp => ?_⟩
  obtain ⟨ex, rh2, gp, _⟩ := rh1.grow hp (.tup vs)
  exact k _ _ ⟨_, .tup ds, h1, e1.trans ex, rh2, .tup (Or.inl (Or.inl gp)) (rv.mono ex), q⟩
/-- a new list, owned -/
theorem e_lst {ta : TA} (ha : dA K ta δ h (fun xs h1 => xs.length ≤ 100000 ∧ ∀ p, h1 p = none → Q (.ref p) (dupd h1 p (.lst xs)))) : dE K (tLst ta) δ h Q := fun G F σ H rh sl QV k => by
  refine ha G F σ H rh sl _ ?_
  rintro vs H1 ⟨G1, ds, h1, e1, rh1, rv, hl, q⟩
  refine ⟨Evl.sz_of (by rw [← rv.length]; exact hl), fun p hp => ?_⟩
  obtain ⟨hh, rh2⟩ := rh1.alloc hp (o := .lst ds) (u := .lst vs) rv
  exact k _ _ ⟨_, .ref p, _, e1, rh2, .ref p, q p hh⟩
/-- a new list, frozen -/
theorem e_lstF {ta : TA} (ha : dA K ta δ h (fun xs h1 => xs.length ≤ 100000 ∧ Q (.lst xs) h1)) : dE K (tLst ta) δ h Q := fun G F σ H rh sl QV k => by
  refine ha G F σ H rh sl _ ?_
  rintro vs H1 ⟨G1, ds, h1, e1, rh1, rv, hl, q⟩
  refine ⟨Evl.sz_of (by rw [← rv.length]; exact hl), fun p hp => ?_⟩
  obtain ⟨ex, rh2, gp, _⟩ := rh1.grow hp (.lst vs)
  exact k _ _ ⟨_, .lst ds, h1, e1.trans ex, rh2, .lst gp (rv.mono ex), q⟩
/-- what a call tells as an owned list is frozen -/
def derase (h : DH) (a : Addr) : DH := fun b => if b = a then none else h b
theorem de_dupd {h : DH} {a : Addr} {o : DO} (e : h a = none) : derase (dupd h a o) a = h := by
  funext b; unfold derase dupd
  by_cases z : b = a
  · subst z; rw [if_pos rfl, e]
  · rw [if_neg z, if_neg z]
theorem RH.freeze (r : RH K G F h H) (e : h a = some (.lst ds)) : ∃ vs, Ex G (upd G a (.lst vs)) ∧ RH K (upd G a (.lst vs)) F (derase h a) H ∧ Rp K (upd G a (.lst vs)) (.lst ds) (.ref a) := by
  obtain ⟨ga, u, hu, ru⟩ := r.own a _ e
  obtain ⟨vs, rfl, rv⟩ := rpo_lst ru
  have ex : Ex G (upd G a (.lst vs)) := Ex.new ga
  refine ⟨vs, ex, ⟨fun b o q => ?_, fun b o q => ?_, fun b o q => ?_⟩, .lst upd_same (rv.mono ex)⟩
  · by_cases z : b = a
    · subst z; rw [upd_same] at q; cases q; exact hu
    · rw [upd_ne z] at q; exact r.ex b o q
  · obtain ⟨e1, e2, e3⟩ := r.fr b o q
    have z : b ≠ a := fun z => by subst z; rw [e] at e2; cases e2
    refine ⟨by rw [upd_ne z]; exact e1, ?_, e3⟩
    unfold derase; rw [if_neg z]; exact e2
  · unfold derase at q
    by_cases z : b = a
    · rw [if_pos z] at q; cases q
    · rw [if_neg z] at q
      obtain ⟨e1, u, e2, e3⟩ := r.own b o q
      exact ⟨by rw [upd_ne z]; exact e1, u, e2, e3.mono ex⟩
theorem e_frz (ha : dE K te δ h (fun d h1 => ∃ a ds, d = .ref a ∧ h1 a = some (.lst ds) ∧ Q (.lst ds) (derase h1 a))) : dE K te δ h Q := fun G F σ H rh sl QV k => by
  refine ha G F σ H rh sl _ ?_
  rintro v H1 ⟨G1, d, h1, e1, rh1, rv, a, ds, rfl, e2, q⟩
  cases rv
  obtain ⟨vs, ex, rh2, r2⟩ := rh1.freeze e2
  exact k _ _ ⟨_, _, _, e1.trans ex, rh2, r2, q⟩
theorem e_mono {Q' : DK} (ha : dE K te δ h Q') (hq : ∀ d h1, Q' d h1 → Q d h1) : dE K te δ h Q := fun G F σ H rh sl QV k => by
  refine ha G F σ H rh sl _ ?_
  rintro v H1 ⟨G1, d, h1, e1, rh1, rv, q⟩
  exact k _ _ ⟨G1, d, h1, e1, rh1, rv, hq _ _ q⟩
theorem e_cb {r : List V → Hp → VK → Prop} {ta : TA} (ha : dA K ta δ h (fun xs h1 => dC K r xs h1 Q)) : dE K (tCB r ta) δ h Q := fun G F σ H rh sl QV k => by
  refine ha G F σ H rh sl _ ?_
  rintro vs H1 ⟨G1, ds, h1, e1, rh1, rv, q⟩
  exact q G1 F H1 vs rh1 rv QV fun z H3 l => k z H3 (l.up e1)
theorem e_if (hc : dT K t δ h (fun b h1 => (b = true → dE K ta δ h1 Q) ∧ (b = false → dE K tb δ h1 Q))) : dE K (tIf t ta tb) δ h Q := fun G F σ H rh sl QV k => by
  refine hc G F σ H rh sl _ ?_
  rintro b H1 ⟨G1, h1, e1, rh1, q1, q2⟩
  cases b with
  | true => rw [if_pos rfl]; exact q1 rfl G1 F σ H1 rh1 (sl_mono e1 sl) QV fun z H3 l => k z H3 (l.up e1)
  | false => rw [if_neg Bool.false_ne_true]; exact q2 rfl G1 F σ H1 rh1 (sl_mono e1 sl) QV fun z H3 l => k z H3 (l.up e1)
theorem e_andV (ha : dE K ta δ h (fun x h1 => ∃ b, x = .bl b ∧ (b = true → dE K tb δ h1 Q) ∧ (b = false → Q (.bl false) h1))) : dE K (tAndV ta tb) δ h Q := fun G F σ H rh sl QV k => by
  refine ha G F σ H rh sl _ ?_
  rintro v H1 ⟨G1, d, h1, e1, rh1, rv, b, rfl, q1, q2⟩
  cases rv
  refine ⟨b, rfl, ?_⟩
  cases b with
  | true => rw [if_pos rfl]; exact q1 rfl G1 F σ H1 rh1 (sl_mono e1 sl) QV fun z H3 l => k z H3 (l.up e1)
  | false => rw [if_neg Bool.false_ne_true]; exact k _ _ (LV.up e1 (.of rh1 (.bl false) (q2 rfl)))
theorem e_orV (ha : dE K ta δ h (fun x h1 => ∃ b, x = .bl b ∧ (b = false → dE K tb δ h1 Q) ∧ (b = true → Q (.bl true) h1))) : dE K (tOrV ta tb) δ h Q := fun G F σ H rh sl QV k => by
  refine ha G F σ H rh sl _ ?_
  rintro v H1 ⟨G1, d, h1, e1, rh1, rv, b, rfl, q1, q2⟩
  cases rv
  refine ⟨b, rfl, ?_⟩
  cases b with
  | false => rw [if_neg Bool.false_ne_true]; exact q1 rfl G1 F σ H1 rh1 (sl_mono e1 sl) QV fun z H3 l => k z H3 (l.up e1)
  | true => rw [if_pos rfl]; exact k _ _ (LV.up e1 (.of rh1 (.bl true) (q2 rfl)))
theorem e_notV (ha : dE K ta δ h (fun x h1 => ∃ b, x = .bl b ∧ Q (.bl (!b)) h1)) : dE K (tNotV ta) δ h Q := fun G F σ H rh sl QV k => by
  refine ha G F σ H rh sl _ ?_
  rintro v H1 ⟨G1, d, h1, e1, rh1, rv, b, rfl, q1⟩
  cases rv
  exact ⟨b, rfl, k _ _ (LV.up e1 (.of rh1 (.bl _) q1))⟩
theorem e_chain (ha : dE K ta δ h (fun x h1 => dE K tb δ h1 (fun y h2 => dR K r x y h2 (fun v h3 => ∃ b, v = .bl b ∧ (b = true → dE K tc δ h3 (fun z h4 => dR K r' y z h4 Q)) ∧ (b = false → Q (.bl false) h3))))) : dE K (tChain r r' ta tb tc) δ h Q := fun G F σ H rh sl QV k => by
  refine ha G F σ H rh sl _ ?_
  rintro v H1 ⟨G1, d, h1, e1, rh1, rv, q⟩
  refine q G1 F σ H1 rh1 (sl_mono e1 sl) _ ?_
  rintro w H2 ⟨G2, d2, h2, e2, rh2, rw, q2⟩
  refine q2 G2 F H2 v w rh2 (rv.mono e2) rw _ ?_
  rintro z H3 ⟨G3, d3, h3, e3, rh3, rz, b, rfl, q3, q4⟩
  cases rz
  refine ⟨b, rfl, ?_⟩
  cases b with
  | true =>
    rw [if_pos rfl]
    refine q3 rfl G3 F σ H3 rh3 (sl_mono (e1.trans (e2.trans e3)) sl) _ ?_
    rintro z4 H4 ⟨G4, d4, h4, e4, rh4, rz4, q5⟩
    exact q5 G4 F H4 w z4 rh4 (rw.mono (e3.trans e4)) rz4 QV fun z H3 l => k z H3 (l.up ((e1.trans (e2.trans e3)).trans e4))
  | false => rw [if_neg Bool.false_ne_true]; exact k _ _ (LV.up (e1.trans (e2.trans e3)) (.of rh3 (.bl false) (q4 rfl)))

/-! ### tests -/
theorem t_test {Q : Bool → DH → Prop} (ha : dE K ta δ h (fun x h1 => ∃ b, x = .bl b ∧ Q b h1)) : dT K (tTest ta) δ h Q := fun G F σ H rh sl QV k => by
  refine ha G F σ H rh sl _ ?_
  rintro v H1 ⟨G1, d, h1, e1, rh1, rv, b, rfl, q1⟩
  cases rv
  exact ⟨b, rfl, k _ _ ⟨G1, h1, e1, rh1, q1⟩⟩
theorem t_b {Q : Bool → DH → Prop} (ha : dE K ta δ h (fun x h1 => ∃ b, x = .bl b ∧ Q b h1)) : dT K (tB ta) δ h Q := fun G F σ H rh sl QV k => by
  refine ha G F σ H rh sl _ ?_
  rintro v H1 ⟨G1, d, h1, e1, rh1, rv, b, rfl, q1⟩
  cases rv
  exact ⟨b, rfl, k _ _ ⟨G1, h1, e1, rh1, q1⟩⟩
theorem t_and {Q : Bool → DH → Prop} (ha : dT K t δ h (fun b h1 => (b = true → dT K u δ h1 Q) ∧ (b = false → Q false h1))) : dT K (tAnd t u) δ h Q := fun G F σ H rh sl QV k => by
  refine ha G F σ H rh sl _ ?_
  rintro b H1 ⟨G1, h1, e1, rh1, q1, q2⟩
  cases b with
  | true => rw [if_pos rfl]; exact q1 rfl G1 F σ H1 rh1 (sl_mono e1 sl) QV fun z H3 l => k z H3 (l.up e1)
  | false => rw [if_neg Bool.false_ne_true]; exact k _ _ ⟨G1, h1, e1, rh1, q2 rfl⟩
theorem t_or {Q : Bool → DH → Prop} (ha : dT K t δ h (fun b h1 => (b = false → dT K u δ h1 Q) ∧ (b = true → Q true h1))) : dT K (tOr t u) δ h Q := fun G F σ H rh sl QV k => by
  refine ha G F σ H rh sl _ ?_
  rintro b H1 ⟨G1, h1, e1, rh1, q1, q2⟩
  cases b with
  | false => rw [if_neg Bool.false_ne_true]; exact q1 rfl G1 F σ H1 rh1 (sl_mono e1 sl) QV fun z H3 l => k z H3 (l.up e1)
  | true => rw [if_pos rfl]; exact k _ _ ⟨G1, h1, e1, rh1, q2 rfl⟩
theorem t_not {Q : Bool → DH → Prop} (ha : dT K t δ h (fun b h1 => Q (!b) h1)) : dT K (tNot t) δ h Q := fun G F σ H rh sl QV k => by
  refine ha G F σ H rh sl _ ?_
  rintro b H1 ⟨G1, h1, e1, rh1, q1⟩
  exact k _ _ ⟨G1, h1, e1, rh1, q1⟩
theorem t_mono {Q Q' : Bool → DH → Prop} (ha : dT K t δ h Q') (hq : ∀ d h1, Q' d h1 → Q d h1) : dT K t δ h Q := fun G F σ H rh sl QV k => by
  refine ha G F σ H rh sl _ ?_
  rintro v H1 ⟨G1, h1, e1, rh1, q⟩
  exact k _ _ ⟨G1, h1, e1, rh1, hq _ _ q⟩
/-- no test at all -/
theorem t_yes {Q : Bool → DH → Prop} (q : Q true h) : dT K tYes δ h Q := fun G F σ H rh sl QV k => k _ _ ⟨G, h, Ex.refl G, rh, q⟩

/-! ### by values -/
theorem r_I0 {g : Int → Int → V} {n m : Int} (e : ∀ G, Rp K G d (g n m)) (q : Q d h) : dR K (rI0 g) (.int n) (.int m) h Q := fun G F H vx vy rh rx ry QV k => by
  cases rx; cases ry
  exact ⟨n, m, rfl, rfl, k _ _ (.of rh (e G) q)⟩
theorem r_I {C : Int → Int → Prop} {g : Int → Int → V} {n m : Int} (e : ∀ G, Rp K G d (g n m)) (hc : C n m) (q : Q d h) : dR K (rI C g) (.int n) (.int m) h Q := fun G F H vx vy rh rx ry QV k => by
  cases rx; cases ry
  exact ⟨n, m, rfl, rfl, hc, k _ _ (.of rh (e G) q)⟩
theorem r_eqI {n m : Int} (q : Q (.bl (decide (n = m))) h) : dR K rEq (.int n) (.int m) h Q := fun G F H vx vy rh rx ry QV k => by
  cases rx; cases ry
  have e : decide (V.int n = V.int m) = decide (n = m) := by simp
  exact ⟨rfl, by rw [e]; exact k _ _ (.of rh (.bl _) q)⟩
theorem r_neI {n m : Int} (q : Q (.bl (!decide (n = m))) h) : dR K rNe (.int n) (.int m) h Q := fun G F H vx vy rh rx ry QV k => by
  cases rx; cases ry
  have e : decide (V.int n = V.int m) = decide (n = m) := by simp
  exact ⟨rfl, by rw [e]; exact k _ _ (.of rh (.bl _) q)⟩
theorem r_eqS {n m : Str} (q : Q (.bl (decide (n = m))) h) : dR K rEq (.str n) (.str m) h Q := fun G F H vx vy rh rx ry QV k => by
  cases rx; cases ry
  have e : decide (V.str n = V.str m) = decide (n = m) := by simp
  exact ⟨rfl, by rw [e]; exact k _ _ (.of rh (.bl _) q)⟩
theorem r_neS {n m : Str} (q : Q (.bl (!decide (n = m))) h) : dR K rNe (.str n) (.str m) h Q := fun G F H vx vy rh rx ry QV k => by
  cases rx; cases ry
  have e : decide (V.str n = V.str m) = decide (n = m) := by simp
  exact ⟨rfl, by rw [e]; exact k _ _ (.of rh (.bl _) q)⟩
def isNon : D → Bool
  | .non => true
  | _ => false
theorem isNon_rp {d : D} {v : V} (r : Rp K G d v) : decide (v = .non) = isNon d := by
  cases r <;> simp [isNon]
theorem r_isN (q : Q (.bl (isNon x)) h) : dR K rIsN x .non h Q := fun G F H vx vy rh rx ry QV k => by
  cases ry
  exact ⟨rfl, by rw [isNon_rp rx]; exact k _ _ (.of rh (.bl _) q)⟩
theorem r_notN (q : Q (.bl (!isNon x)) h) : dR K rNotN x .non h Q := fun G F H vx vy rh rx ry QV k => by
  cases ry
  exact ⟨rfl, by rw [isNon_rp rx]; exact k _ _ (.of rh (.bl _) q)⟩
theorem u_neg {n : Int} {g : Int → V} (e : ∀ G, Rp K G d (g n)) (q : Q d h) : dU K (rU g) (.int n) h Q := fun G F H vx rh rx QV k => by
  cases rx
  exact ⟨n, rfl, k _ _ (.of rh (e G) q)⟩
/-- what may be read as a list of ds, a tuple of ds -/
inductive IsL (h : DH) : D → List D → Prop
  | frz (ds : List D) : IsL h (.lst ds) ds
  | rd (ds : List D) : IsL h (.rd ds) ds
  | own {a : Addr} {ds : List D} (e : h a = some (.lst ds)) : IsL h (.ref a) ds
theorem IsL.of (l : IsL h x ds) (rh : RH K G F h H) {v : V} (r : Rp K G x v) : ∃ p vs, v = .ref p ∧ SqL K H p vs ∧ Rps K G ds vs := by
  cases l with
  | frz =>
    cases r with
    | lst hs r => exact ⟨_, _, rfl, Or.inl (Or.inl (rh.ex _ _ hs)), r⟩
  | rd =>
    cases r with
    | rd hs r => exact ⟨_, _, rfl, Evl.ex_l rh.ex hs, r⟩
  | own e =>
    cases r
    obtain ⟨_, u, e2, e3⟩ := rh.own _ _ e
    obtain ⟨vs, rfl, rv⟩ := rpo_lst e3
    exact ⟨_, vs, rfl, Or.inl (Or.inl e2), rv⟩
theorem tup_of (rh : RH K G F h H) {v : V} (r : Rp K G (.tup ds) v) : ∃ p vs, v = .ref p ∧ SqT K H p vs ∧ Rps K G ds vs := by
  cases r with
  | tup hs r => exact ⟨_, _, rfl, Evl.ex_t rh.ex hs, r⟩
theorem r_ixL {n : Int} (l : IsL h x ds) (e : atI ds n = some d) (q : Q d h) : dR K (rIxL K) x (.int n) h Q := fun G F H vx vy rh rx ry QV k => by
  obtain ⟨p, vs, rfl, hs, r⟩ := l.of rh rx
  cases ry
  obtain ⟨v, e2, rv⟩ := r.at e
  exact ⟨p, vs, n, v, rfl, rfl, hs, e2, k _ _ (.of rh rv q)⟩
theorem r_ixT {n : Int} (e : atI ds n = some d) (q : Q d h) : dR K (rIxT K) (.tup ds) (.int n) h Q := fun G F H vx vy rh rx ry QV k => by
  obtain ⟨p, vs, rfl, hs, r⟩ := tup_of rh rx
  cases ry
  obtain ⟨v, e2, rv⟩ := r.at e
  exact ⟨p, vs, n, v, rfl, rfl, hs, e2, k _ _ (.of rh rv q)⟩
/-- a list or a tuple -/
inductive IsS (h : DH) : D → List D → Prop
  | lst {x : D} {ds : List D} (l : IsL h x ds) : IsS h x ds
  | tup (ds : List D) : IsS h (.tup ds) ds
theorem IsS.of (l : IsS h x ds) (rh : RH K G F h H) {v : V} (r : Rp K G x v) : ∃ p vs, v = .ref p ∧ (SqL K H p vs ∨ SqT K H p vs) ∧ Rps K G ds vs := by
  cases l with
  | lst l =>
    obtain ⟨p, vs, e, h1, h2⟩ := l.of rh r
    exact ⟨p, vs, e, .inl h1, h2⟩
  | tup =>
    obtain ⟨p, vs, e, h1, h2⟩ := tup_of rh r
    exact ⟨p, vs, e, .inr h1, h2⟩
theorem r_ix {n : Int} (l : IsS h x ds) (e : atI ds n = some d) (q : Q d h) : dR K (rIx K) x (.int n) h Q := by
  cases l with
  | lst l => exact fun G F H vx vy rh rx ry QV k => Or.inl (r_ixL l e q G F H vx vy rh rx ry QV k)
  | tup => exact fun G F H vx vy rh rx ry QV k => Or.inr (Or.inl (r_ixT e q G F H vx vy rh rx ry QV k))
theorem r_or1 (hr : dR K r x y h Q) : dR K (fun x y H Q => r x y H Q ∨ r' x y H Q) x y h Q := fun G F H vx vy rh rx ry QV k => Or.inl (hr G F H vx vy rh rx ry QV k)
theorem r_or2 (hr : dR K r' x y h Q) : dR K (fun x y H Q => r x y H Q ∨ r' x y H Q) x y h Q := fun G F H vx vy rh rx ry QV k => Or.inr (hr G F H vx vy rh rx ry QV k)
/-- len -/
theorem c_len (l : IsS h x ds) (q : Q (.int (ds.length : Int)) h) : dC K (Evl.rLenS K) [x] h Q := fun G F H vs rh rs QV k => by
  cases rs with
  | cons r0 r1 =>
    cases r1
    obtain ⟨p, ws, rfl, h1, h2⟩ := l.of rh r0
    exact ⟨p, ws, rfl, h1, by rw [← h2.length]; exact k _ _ (.of rh (.int _) q)⟩
theorem c_abs {n : Int} (q : Q (.int (if n < 0 then -n else n)) h) : dC K (fun xs H Q => ∃ i, xs = [.int i] ∧ Q (.int (if i < 0 then -i else i)) H) [.int n] h Q := fun G F H vs rh rs QV k => by
  cases rs with
  | cons r0 r1 =>
    cases r1; cases r0
    exact ⟨n, rfl, k _ _ (.of rh (.int _) q)⟩
theorem c_max2 {n m : Int} (q : Q (.int (if m > n then m else n)) h) : dC K (fun xs H Q => ∃ i j, xs = [.int i, .int j] ∧ Q (.int (if j > i then j else i)) H) [.int n, .int m] h Q := fun G F H vs rh rs QV k => by
  cases rs with
  | cons r0 r1 =>
    cases r1 with
    | cons r1 r2 =>
      cases r2; cases r0; cases r1
      exact ⟨n, m, rfl, k _ _ (.of rh (.int _) q)⟩
theorem c_min2 {n m : Int} (q : Q (.int (if m < n then m else n)) h) : dC K (fun xs H Q => ∃ i j, xs = [.int i, .int j] ∧ Q (.int (if j < i then j else i)) H) [.int n, .int m] h Q := fun G F H vs rh rs QV k => by
  cases rs with
  | cons r0 r1 =>
    cases r1 with
    | cons r1 r2 =>
      cases r2; cases r0; cases r1
      exact ⟨n, m, rfl, k _ _ (.of rh (.int _) q)⟩
def r_int1 : List V → Hp → VK → Prop := fun xs H Q => (∃ i, xs = [.int i] ∧ Q (.int i) H) ∨ ∃ k, xs = [.bl k] ∧ Q (.int (if k then 1 else 0)) H
theorem call_int1' {X : Cx} : CallR X (.type "int") r_int1 := call_int1
theorem c_intB {b : Bool} (q : Q (.int (if b then 1 else 0)) h) : dC K r_int1 [.bl b] h Q := fun G F H vs rh rs QV k => by
  cases rs with
  | cons r0 r1 =>
    cases r1; cases r0
    exact Or.inr ⟨b, rfl, k _ _ (.of rh (.int _) q)⟩
theorem c_all {bs : List Bool} (l : IsL h x (bs.map D.bl)) (q : Q (.bl (bs.all id)) h) : dC K (rAll K) [x] h Q := fun G F H vs rh rs QV k => by
  cases rs with
  | cons r0 r1 =>
    cases r1
    obtain ⟨p, ws, rfl, h1, h2⟩ := l.of rh r0
    have e := h2.bls
    subst e
    exact ⟨p, bs, rfl, h1, k _ _ (.of rh (.bl _) q)⟩
theorem c_any {bs : List Bool} (l : IsL h x (bs.map D.bl)) (q : Q (.bl (bs.any id)) h) : dC K (rAny K) [x] h Q := fun G F H vs rh rs QV k => by
  cases rs with
  | cons r0 r1 =>
    cases r1
    obtain ⟨p, ws, rfl, h1, h2⟩ := l.of rh r0
    have e := h2.bls
    subst e
    exact ⟨p, bs, rfl, h1, k _ _ (.of rh (.bl _) q)⟩
/-- tuple(x) -/
theorem u_tuple (l : IsS h x ds) (q : Q (.tup ds) h) : dU K (kTup K) x h Q := fun G F H vx rh rx QV k => by
  cases l with
  | tup =>
    cases rx with
    | tup hs r => exact Or.inr ⟨_, _, rfl, Evl.ex_t rh.ex hs, k _ _ (.of rh (.tup hs r) q)⟩
  | lst l =>
    obtain ⟨p, ws, rfl, h1, h2⟩ := l.of rh rx
    refine Or.inl ⟨p, ws, rfl, h1, fun p' hp => ?_⟩
    obtain ⟨ex, rh2, gp, _⟩ := rh.grow hp (.tup ws)
    exact k _ _ ⟨_, _, h, ex, rh2, .tup (Or.inl (Or.inl gp)) (h2.mono ex), q⟩
/-- list(x), owned; frozen -/
theorem c_list (l : IsS h x ds) (q : ∀ p, h p = none → Q (.ref p) (dupd h p (.lst ds))) : dC K (Evl.rListS K) [x] h Q := fun G F H vs rh rs QV k => by
  cases rs with
  | cons r0 r1 =>
    cases r1
    obtain ⟨p, ws, rfl, h1, h2⟩ := l.of rh r0
    refine ⟨p, ws, rfl, h1, fun p' hp => ?_⟩
    obtain ⟨hh, rh2⟩ := rh.alloc hp (o := .lst ds) (u := .lst ws) h2
    exact k _ _ ⟨_, _, _, Ex.refl G, rh2, .ref p', q p' hh⟩
theorem c_listF (l : IsS h x ds) (q : Q (.lst ds) h) : dC K (Evl.rListS K) [x] h Q := fun G F H vs rh rs QV k => by
  cases rs with
  | cons r0 r1 =>
    cases r1
    obtain ⟨p, ws, rfl, h1, h2⟩ := l.of rh r0
    refine ⟨p, ws, rfl, h1, fun p' hp => ?_⟩
    obtain ⟨ex, rh2, gp, _⟩ := rh.grow hp (.lst ws)
    exact k _ _ ⟨_, _, h, ex, rh2, .lst gp (h2.mono ex), q⟩

/-! ### targets -/
theorem g_name {Q : DSt → DH → Prop} (q : Q (δ.set i (some d)) h) : dG K (gName i) d δ h Q := fun G F σ H v rh sl rv QV k =>
  k _ _ ⟨G, _, h, Ex.refl G, rh, sl_set (.some rv) i sl, q⟩
theorem g_nil {Q : DSt → DH → Prop} (q : Q δ h) : dGs K gNil [] δ h Q := fun G F σ H vs rh sl rv QV k => by
  cases rv
  exact ⟨rfl, k _ _ ⟨G, _, h, Ex.refl G, rh, sl, q⟩⟩
theorem g_cons {g : TG} {gs : TGs} {Q : DSt → DH → Prop} (hg : dG K g d δ h (fun δ1 h1 => dGs K gs ds δ1 h1 Q)) : dGs K (gCons g gs) (d :: ds) δ h Q := fun G F σ H vs rh sl rv QV k => by
  cases rv with
  | cons r0 r1 =>
    refine ⟨_, _, rfl, hg G F σ H _ rh sl r0 _ ?_⟩
    rintro σ1 H1 ⟨G1, δ1, h1, e1, rh1, sl1, q1⟩
    exact q1 G1 F σ1 H1 _ rh1 sl1 (r1.mono e1) QV fun s H2 l => k s H2 (l.up e1)
theorem g_tup {gs : TGs} {n : Nat} {Q : DSt → DH → Prop} (hn : ds.length = n) (hg : dGs K gs ds δ h Q) : dG K (gTup K n gs) (.tup ds) δ h Q := fun G F σ H v rh sl rv QV k => by
  obtain ⟨p, vs, rfl, hs, r⟩ := tup_of rh rv
  exact ⟨p, vs, rfl, hs, by rw [← r.length]; exact hn, hg G F σ H vs rh sl r QV k⟩
/-- xs[i] = e -/
theorem g_setL {Q : DSt → DH → Prop} {x : D} (ho : dE K ta δ h (fun o h1 => dE K tb δ h1 (fun iv h2 => ∃ (l : Addr) (xs : List D) (n : Int) (j : Nat), o = .ref l ∧ iv = .int n ∧ h2 l = some (.lst xs) ∧ ixN xs.length n = some j ∧ Q δ (dupd h2 l (.lst (xs.set j x)))))) :
    dG K (gSub ta tb rSetL) x δ h Q := fun G F σ H v rh sl rv QV k => by
  refine ho G F σ H rh sl _ ?_
  rintro v1 H1 ⟨G1, d1, h1, e1, rh1, rv1, q1⟩
  refine q1 G1 F σ H1 rh1 (sl_mono e1 sl) _ ?_
  rintro v2 H2 ⟨G2, d2, h2, e2, rh2, rv2, l, xs, n, j, rfl, rfl, e3, e4, q2⟩
  cases rv1; cases rv2
  obtain ⟨_, u, e5, e6⟩ := rh2.own _ _ e3
  obtain ⟨vs, rfl, rs⟩ := rpo_lst e6
  refine ⟨l, vs, n, j, rfl, rfl, e5, by rw [← rs.length]; exact e4, ?_⟩
  exact k _ _ ⟨G2, δ, _, e1.trans e2, rh2.write e3 (o := .lst (xs.set j x)) (u := .lst (vs.set j v)) (rs.set (rv.mono (e1.trans e2)) j), sl_mono (e1.trans e2) sl, q2⟩

/-! ### statements -/
theorem s0_next (q : E.nx δ h) : dS0 K tNext E δ h := fun G F σ H rh sl Z l => l.1 _ _ ⟨G, δ, h, Ex.refl G, rh, sl, q⟩
theorem s0_brk (q : E.bk δ h) : dS0 K tBreak E δ h := fun G F σ H rh sl Z l => l.2.2.1 _ _ ⟨G, δ, h, Ex.refl G, rh, sl, q⟩
theorem s0_cont (q : E.ct δ h) : dS0 K tCont E δ h := fun G F σ H rh sl Z l => l.2.2.2 _ _ ⟨G, δ, h, Ex.refl G, rh, sl, q⟩
theorem s0_seq (q : dS0 K ts { E with nx := dS0 K tu E } δ h) : dS0 K (tSeq ts tu) E δ h := fun G F σ H rh sl Z l => by
  refine q G F σ H rh sl _ ⟨?_, l.2.1, l.2.2.1, l.2.2.2⟩
  rintro σ1 H1 ⟨G1, δ1, h1, e1, rh1, sl1, q1⟩
  exact q1 G1 F σ1 H1 rh1 sl1 Z (l.up e1)
theorem s0_asg {g : TG} (he : dE K te δ h (fun d h1 => dG K g d δ h1 E.nx)) : dS0 K (tAsg te g) E δ h := fun G F σ H rh sl Z l => by
  refine he G F σ H rh sl _ ?_
  rintro v H1 ⟨G1, d, h1, e1, rh1, rv, q⟩
  exact q G1 F σ H1 v rh1 (sl_mono e1 sl) rv _ fun s H2 q2 => l.1 _ _ (q2.up e1)
theorem s0_drop (he : dE K te δ h (fun d h1 => E.nx δ h1)) : dS0 K (tDrop te) E δ h := fun G F σ H rh sl Z l => by
  refine he G F σ H rh sl _ ?_
  rintro v H1 ⟨G1, d, h1, e1, rh1, rv, q⟩
  exact l.1 _ _ ⟨G1, δ, h1, e1, rh1, sl_mono e1 sl, q⟩
theorem s0_ret (he : dE K te δ h E.rt) : dS0 K (tRet te) E δ h := fun G F σ H rh sl Z l => he G F σ H rh sl _ l.2.1
theorem s0_retN (q : E.rt .non h) : dS0 K tRetN E δ h := fun G F σ H rh sl Z l => l.2.1 _ _ (.of rh .non q)
theorem s0_if (hc : dT K c δ h (fun b h1 => (b = true → dS0 K tu E δ h1) ∧ (b = false → dS0 K tw E δ h1))) : dS0 K (tIfS c tu tw) E δ h := fun G F σ H rh sl Z l => by
  refine hc G F σ H rh sl _ ?_
  rintro b H1 ⟨G1, h1, e1, rh1, q1, q2⟩
  cases b with
  | true => rw [if_pos rfl]; exact q1 rfl G1 F σ H1 rh1 (sl_mono e1 sl) Z (l.up e1)
  | false => rw [if_neg Bool.false_ne_true]; exact q2 rfl G1 F σ H1 rh1 (sl_mono e1 sl) Z (l.up e1)
theorem s0_aug {f : Int → Int → Int} {n : Int} (e : δ[i]? = some (some (.int n))) (he : dE K te δ h (fun d h1 => ∃ m, d = .int m ∧ E.nx (δ.set i (some (.int (f n m)))) h1)) : dS0 K (tAug i te (ipI f)) E δ h := fun G F σ H rh sl Z l => by
  obtain ⟨v, e1, r1⟩ := sl_get sl e
  cases r1
  refine ⟨_, e1, he G F σ H rh sl _ ?_⟩
  rintro v H1 ⟨G1, d, h1, e1, rh1, rv, m, rfl, q⟩
  cases rv
  exact ⟨n, m, rfl, rfl, l.1 _ _ ⟨G1, _, h1, e1, rh1, sl_set (.some (.int _)) i (sl_mono e1 sl), q⟩⟩
/-- what is owned is frozen from here on -/
def frzD (a : Addr) (ds : List D) : Option D → Option D
  | some (.ref b) => if b = a then some (.lst ds) else some (.ref b)
  | d => d
theorem s0_frz (e : h a = some (.lst ds)) (q : dS0 K ts E (δ.map (frzD a ds)) (derase h a)) : dS0 K ts E δ h := fun G F σ H rh sl Z l => by
  obtain ⟨vs, ex, rh2, r2⟩ := rh.freeze e
  refine q _ F σ H rh2 ?_ Z (l.up ex)
  have g : ∀ {δ : DSt} {σ : L2.St}, Sl K G δ σ → Sl K (upd G a (.lst vs)) (δ.map (frzD a ds)) σ := by
    intro δ σ s
    induction s with
    | nil => exact .nil
    | @cons d0 v0 _ _ r _ ih =>
      refine .cons ?_ ih
      cases r with
      | none => exact .none
      | @some d v r =>
        cases d <;> try exact .some (r.mono ex)
        rename_i b
        show RpM K _ (if b = a then some (.lst ds) else some (.ref b)) _
        by_cases z : b = a
        · rw [if_pos z]; subst z; cases r; exact .some r2
        · rw [if_neg z]; exact .some (r.mono ex)
  exact g sl
section
variable {nx bk ct : DP} {rt : DK}
theorem s_next (q : nx δ h) : dS K tNext nx rt bk ct δ h := s0_next (E := ⟨nx, rt, bk, ct⟩) q
theorem s_brk (q : bk δ h) : dS K tBreak nx rt bk ct δ h := s0_brk (E := ⟨nx, rt, bk, ct⟩) q
theorem s_cont (q : ct δ h) : dS K tCont nx rt bk ct δ h := s0_cont (E := ⟨nx, rt, bk, ct⟩) q
theorem s_seq (q : dS K ts (dS K tu nx rt bk ct) rt bk ct δ h) : dS K (tSeq ts tu) nx rt bk ct δ h := s0_seq (E := ⟨nx, rt, bk, ct⟩) q
theorem s_asg {g : TG} (he : dE K te δ h (fun d h1 => dG K g d δ h1 nx)) : dS K (tAsg te g) nx rt bk ct δ h := s0_asg (E := ⟨nx, rt, bk, ct⟩) he
theorem s_drop (he : dE K te δ h (fun d h1 => nx δ h1)) : dS K (tDrop te) nx rt bk ct δ h := s0_drop (E := ⟨nx, rt, bk, ct⟩) he
theorem s_ret (he : dE K te δ h rt) : dS K (tRet te) nx rt bk ct δ h := s0_ret (E := ⟨nx, rt, bk, ct⟩) he
theorem s_retN (q : rt .non h) : dS K tRetN nx rt bk ct δ h := s0_retN (E := ⟨nx, rt, bk, ct⟩) q
theorem s_if (hc : dT K c δ h (fun b h1 => (b = true → dS K tu nx rt bk ct δ h1) ∧ (b = false → dS K tw nx rt bk ct δ h1))) : dS K (tIfS c tu tw) nx rt bk ct δ h := s0_if (E := ⟨nx, rt, bk, ct⟩) hc
theorem s_aug {f : Int → Int → Int} {n : Int} (e : δ[i]? = some (some (.int n))) (he : dE K te δ h (fun d h1 => ∃ m, d = .int m ∧ nx (δ.set i (some (.int (f n m)))) h1)) : dS K (tAug i te (ipI f)) nx rt bk ct δ h := s0_aug (E := ⟨nx, rt, bk, ct⟩) e he
theorem s_frz (e : h a = some (.lst ds)) (q : dS K ts nx rt bk ct (δ.map (frzD a ds)) (derase h a)) : dS K ts nx rt bk ct δ h := s0_frz (E := ⟨nx, rt, bk, ct⟩) e q
end
end
end DL
set_option maxHeartbeats 2000000
/-! DL: loops, comprehensions, calls. -/
namespace L2
open PySem PySem.Spec PyProof.Rows
theorem pi_seqX {X : Cx} {tg l : Expr} {tl : TE} (hl : PE X l tl) : PI X tg l (fun σ H R => tl σ H fun x H1 => ∃ a, x = .ref a ∧ (((∃ xs, SqL X.K H1 a xs) ∧ R (Itl X.K a) H1) ∨ ((∃ xs, SqT X.K H1 a xs) ∧ R (Itt X.K a) H1))) := by
  refine ⟨fun pins s σ H R I h => ?_⟩
  refine thn (hl.run pins s σ H _ I h) fun v s1 ⟨x, H1, I1, r1, q1⟩ => ?_
  obtain ⟨a, e, q⟩ := q1
  subst e
  cases r1
  rcases q with ⟨⟨xs, hq⟩, q⟩ | ⟨⟨xs, hq⟩, q⟩
  · obtain ⟨its, rv, p, hz⟩ := I1.list hq
    refine wpAny_pyIter_list p.isList ?_
    refine ⟨s1.heap.objs.size, [s1.heap.objs.size], _, _, H1, rfl, I1.kept (t' := s1.toks) fun b o e => Heap.get?_push_of_some _ e, turn_list a _, ⟨_, Heap.get?_push_size _ rfl, rfl, rfl⟩, fun b hb => ?_, q⟩
    have e : b = s1.heap.objs.size := by simpa using hb
    subst e
    exact I1.fpOk (Nat.le_refl _) (I1.hok.fresh (Nat.le_refl _))
  · obtain ⟨its, rv, p, hz⟩ := I1.tuple hq
    refine wpAny_pyIter_tuple (show s1.heap.IsTuple a its.toArray from p) ?_
    refine ⟨s1.heap.objs.size, [s1.heap.objs.size], _, _, H1, rfl, I1.kept (t' := s1.toks) fun b o e => Heap.get?_push_of_some _ e, turn_tuple a _, ⟨_, Heap.get?_push_size _ rfl, rfl, rfl⟩, fun b hb => ?_, q⟩
    have e : b = s1.heap.objs.size := by simpa using hb
    subst e
    exact I1.fpOk (Nat.le_refl _) (I1.hok.fresh (Nat.le_refl _))
end L2
namespace DL
open PySem L2 RZ
open Evl (Ex)
section
variable {K : PySem.W.Frag} {G G' F H H' : Hp} {h h' : DH} {Q : DK} {δ : DSt} {d x y z : D} {ds xs : List D} {ta tb tc te tl : TE} {t u c : TT} {E : DEnds} {ts tu tw : TS} {a p : Addr} {i : Nat} {r r' : R2} {wi : TI} {g : TG} {tt : TT}

/-- what an iterator yields, while G stands and C holds -/
structure Src (K : PySem.W.Frag) (G : Hp) (J : It) (ds : List D) (C : DH → Prop) : Prop where
  stop : ∀ G' F h H i, Ex G G' → RH K G' F h H → C h → ds.length ≤ i → J.stop i H
  go : ∀ G' F h H i d, Ex G G' → RH K G' F h H → C h → ds[i]? = some d → J.go i H
  yld : ∀ G' F h H i d x H', Ex G G' → RH K G' F h H → C h → ds[i]? = some d → J.yld i H x H' → ∃ G'', Ex G' G'' ∧ RH K G'' F h H' ∧ Rp K G'' d x
def dI (K : PySem.W.Frag) (wi : TI) (δ : DSt) (h : DH) (Q : List D → (DH → Prop) → DH → Prop) : Prop := ∀ G F σ H, RH K G F h H → Sl K G δ σ → ∀ R : It → Hp → Prop, (∀ J H' G' h' ds C, Ex G G' → RH K G' F h' H' → Src K G' J ds C → C h' → Q ds C h' → R J H') → wi σ H R

theorem IsS.ofL (l : IsL h x ds) (rh : RH K G F h H) {p : Addr} (r : Rp K G x (.ref p)) : ∃ vs, SqL K H p vs ∧ Rps K G ds vs := by
  obtain ⟨q, vs, e, h1, h2⟩ := l.of rh r
  cases e
  exact ⟨vs, h1, h2⟩
theorem src_l {p : Addr} (r : Rp K G x (.ref p)) : Src K G (Itl K p) ds (fun h => IsL h x ds) where
  stop G' F h H i e rh c l := by
    obtain ⟨vs, h1, h2⟩ := IsS.ofL c rh (r.mono e)
    exact ⟨vs, h1, by rw [← h2.length]; exact l⟩
  go G' F h H i d e rh c q := by
    obtain ⟨vs, h1, h2⟩ := IsS.ofL c rh (r.mono e)
    obtain ⟨v, g1, _⟩ := h2.get q
    exact ⟨vs, v, h1, g1⟩
  yld G' F h H i d x0 H' e rh c q y := by
    obtain ⟨rfl, y⟩ := y
    obtain ⟨vs, h1, h2⟩ := IsS.ofL c rh (r.mono e)
    obtain ⟨v, g1, g2⟩ := h2.get q
    have := y vs h1
    rw [g1] at this; cases this
    exact ⟨G', Ex.refl _, rh, g2⟩
theorem src_t {p : Addr} {vs : List V} (hs : SqT K G p vs) (r : Rps K G ds vs) : Src K G (Itt K p) ds (fun _ => True) where
  stop G' F h H i e rh c l := ⟨vs, Evl.ex_t (e.trans rh.ex) hs, by rw [← r.length]; exact l⟩
  go G' F h H i d e rh c q := by
    obtain ⟨v, h1, _⟩ := r.get q
    exact ⟨vs, v, Evl.ex_t (e.trans rh.ex) hs, h1⟩
  yld G' F h H i d x H' e rh c q y := by
    obtain ⟨rfl, y⟩ := y
    obtain ⟨v, h1, h2⟩ := r.get q
    have := y vs (Evl.ex_t (e.trans rh.ex) hs)
    rw [h1] at this; cases this
    exact ⟨G', Ex.refl _, rh, h2.mono e⟩
/-- lo, lo + 1, .. -/
def rngD (lo : Int) (n : Nat) : List D := (List.range n).map fun i => D.int (lo + (i : Nat))
theorem rngD_len {lo : Int} {n : Nat} : (rngD lo n).length = n := by unfold rngD; rw [List.length_map, List.length_range]
theorem rngD_get {lo : Int} {n i : Nat} {d : D} (e : (rngD lo n)[i]? = some d) : i < n ∧ d = .int (lo + (i : Nat)) := by
  unfold rngD at e
  rw [List.getElem?_map] at e
  by_cases hi : i < n
  · rw [List.getElem?_range hi] at e
    exact ⟨hi, (Option.some.inj e).symm⟩
  · rw [List.getElem?_eq_none (by rw [List.length_range]; omega)] at e
    cases e
theorem src_r {lo : Int} {n : Nat} : Src K G (Itr lo n) (rngD lo n) (fun _ => True) where
  stop G' F h H i e rh c l := by rw [rngD_len] at l; exact l
  go G' F h H i d e rh c q := (rngD_get q).1
  yld G' F h H i d x H' e rh c q y := by
    obtain ⟨rfl, rfl⟩ := y
    obtain ⟨_, rfl⟩ := rngD_get q
    exact ⟨G', Ex.refl _, rh, .int _⟩
variable {Q' : List D → (DH → Prop) → DH → Prop}
/-- a list or a tuple -/
def iSeq (K : PySem.W.Frag) (tl : TE) : TI := fun σ H R => tl σ H fun x H1 => ∃ a, x = .ref a ∧ (((∃ xs, SqL K H1 a xs) ∧ R (Itl K a) H1) ∨ ((∃ xs, SqT K H1 a xs) ∧ R (Itt K a) H1))
theorem i_list (hl : dE K tl δ h (fun d h1 => ∃ ds, IsL h1 d ds ∧ Q' ds (fun h' => IsL h' d ds) h1)) : dI K (iList K tl) δ h Q' := fun G F σ H rh sl R k => by
  refine hl G F σ H rh sl _ ?_
  rintro v H1 ⟨G1, d, h1, e1, rh1, rv, ds, l, q⟩
  obtain ⟨p, vs, rfl, hs, r⟩ := l.of rh1 rv
  exact ⟨p, rfl, ⟨vs, hs⟩, k _ _ G1 h1 ds _ e1 rh1 (src_l rv) l q⟩
theorem i_tup (hl : dE K tl δ h (fun d h1 => ∃ ds, d = .tup ds ∧ Q' ds (fun _ => True) h1)) : dI K (iTup K tl) δ h Q' := fun G F σ H rh sl R k => by
  refine hl G F σ H rh sl _ ?_
  rintro v H1 ⟨G1, d, h1, e1, rh1, rv, ds, rfl, q⟩
  cases rv with
  | tup hs r => exact ⟨_, rfl, ⟨_, Evl.ex_t rh1.ex hs⟩, k _ _ G1 h1 ds _ e1 rh1 (src_t hs r) trivial q⟩
theorem Src.imp {J : It} {C C' : DH → Prop} (s : Src K G J ds C) (k : ∀ h, C' h → C h) : Src K G J ds C' :=
  ⟨fun G' F h H i e r c => s.stop G' F h H i e r (k _ c), fun G' F h H i d e r c => s.go G' F h H i d e r (k _ c), fun G' F h H i d x H' e r c => s.yld G' F h H i d x H' e r (k _ c)⟩
theorem i_seq (hl : dE K tl δ h (fun d h1 => ∃ ds, IsS h1 d ds ∧ Q' ds (fun h' => IsS h' d ds) h1)) : dI K (iSeq K tl) δ h Q' := fun G F σ H rh sl R k => by
  refine hl G F σ H rh sl _ ?_
  rintro v H1 ⟨G1, d, h1, e1, rh1, rv, ds, l, q⟩
  cases l with
  | lst l =>
    obtain ⟨p, vs, rfl, hs, r⟩ := l.of rh1 rv
    refine ⟨p, rfl, .inl ⟨⟨vs, hs⟩, k _ _ G1 h1 ds _ e1 rh1 ((src_l rv).imp fun h c => ?_) (.lst l) q⟩⟩
    cases c with
    | lst l => exact l
    | tup => cases l
  | tup =>
    cases rv with
    | tup hs r => exact ⟨_, rfl, .inr ⟨⟨_, Evl.ex_t rh1.ex hs⟩, k _ _ G1 h1 ds _ e1 rh1 ((src_t hs r).imp fun _ _ => trivial) (.tup _) q⟩⟩
theorem i_rng1 {ta : TA} (hl : dA K ta δ h (fun xs h1 => ∃ n : Int, xs = [.int n] ∧ (-(2 ^ 62) ≤ n ∧ n < 2 ^ 62) ∧ Q' (rngD 0 n.toNat) (fun _ => True) h1)) : dI K (iRng1 ta) δ h Q' := fun G F σ H rh sl R k => by
  refine hl G F σ H rh sl _ ?_
  rintro vs H1 ⟨G1, ds, h1, e1, rh1, rv, n, rfl, hn, q⟩
  cases rv with
  | cons r0 r1 =>
    cases r1; cases r0
    exact ⟨n, rfl, hn.1, hn.2, k _ _ G1 h1 _ _ e1 rh1 src_r trivial q⟩
theorem i_rng2 {ta : TA} (hl : dA K ta δ h (fun xs h1 => ∃ m n : Int, xs = [.int m, .int n] ∧ (-(2 ^ 62) ≤ m ∧ m < 2 ^ 62 ∧ -(2 ^ 62) ≤ n ∧ n < 2 ^ 62) ∧ Q' (rngD m (n - m).toNat) (fun _ => True) h1)) : dI K (iRng2 ta) δ h Q' := fun G F σ H rh sl R k => by
  refine hl G F σ H rh sl _ ?_
  rintro vs H1 ⟨G1, ds, h1, e1, rh1, rv, m, n, rfl, hn, q⟩
  cases rv with
  | cons r0 r1 =>
    cases r1 with
    | cons r1 r2 =>
      cases r2; cases r0; cases r1
      exact ⟨m, n, rfl, hn, k _ _ G1 h1 _ _ e1 rh1 src_r trivial q⟩
/-- the pairs of two lists -/
def zipD (xs ys : List D) : List D := List.zipWith (fun x y => D.tup [x, y]) xs ys
theorem zipD_get {xs ys : List D} {i : Nat} {d : D} (e : (zipD xs ys)[i]? = some d) : ∃ x y, xs[i]? = some x ∧ ys[i]? = some y ∧ d = .tup [x, y] := by
  unfold zipD at e
  rw [List.getElem?_zipWith] at e
  cases e1 : xs[i]? with
  | none => rw [e1] at e; cases ys[i]? <;> cases e
  | some x =>
    cases e2 : ys[i]? with
    | none => rw [e1, e2] at e; cases e
    | some y => rw [e1, e2] at e; exact ⟨x, y, rfl, rfl, (Option.some.inj e).symm⟩
theorem zipD_len {xs ys : List D} : (zipD xs ys).length = min xs.length ys.length := List.length_zipWith
theorem src_z {p q : Addr} {y : D} {ys : List D} (r : Rp K G x (.ref p)) (r2 : Rp K G y (.ref q)) : Src K G (Itz K p q) (zipD xs ys) (fun h => IsL h x xs ∧ IsL h y ys) where
  stop G' F h H i e rh c l := by
    rw [zipD_len] at l
    obtain ⟨vs, h1, h2⟩ := IsS.ofL c.1 rh (r.mono e)
    obtain ⟨ws, h3, h4⟩ := IsS.ofL c.2 rh (r2.mono e)
    exact ⟨vs, ws, h1, h3, by rw [← h2.length, ← h4.length]; omega⟩
  go G' F h H i d e rh c q := by
    obtain ⟨a, b, k1, k2, _⟩ := zipD_get q
    obtain ⟨vs, h1, h2⟩ := IsS.ofL c.1 rh (r.mono e)
    obtain ⟨ws, h3, h4⟩ := IsS.ofL c.2 rh (r2.mono e)
    obtain ⟨v, g1, _⟩ := h2.get k1
    obtain ⟨w, g2, _⟩ := h4.get k2
    exact ⟨vs, ws, v, w, h1, h3, g1, g2⟩
  yld G' F h H i d x0 H' e rh c q0 yy := by
    obtain ⟨a, b, k1, k2, rfl⟩ := zipD_get q0
    obtain ⟨vs, h1, h2⟩ := IsS.ofL c.1 rh (r.mono e)
    obtain ⟨ws, h3, h4⟩ := IsS.ofL c.2 rh (r2.mono e)
    obtain ⟨v, g1, rv⟩ := h2.get k1
    obtain ⟨w, g2, rw'⟩ := h4.get k2
    obtain ⟨T, a', b', rfl, hT, rfl, m1, m2⟩ := yy
    have q1 := m1 vs h1
    have q2 := m2 ws h3
    rw [g1] at q1; rw [g2] at q2; cases q1; cases q2
    obtain ⟨ex, rh2, gp, _⟩ := rh.grow hT (.tup [v, w])
    exact ⟨_, ex, rh2, .tup (Or.inl (Or.inl gp)) (.cons (rv.mono ex) (.cons (rw'.mono ex) .nil))⟩
theorem src_zT {p q : Addr} {vs ws : List V} {ys : List D} (hs : SqT K G p vs) (r : Rps K G xs vs) (hs2 : SqT K G q ws) (r2 : Rps K G ys ws) : Src K G (ItzT K p q) (zipD xs ys) (fun _ => True) where
  stop G' F h H i e rh c l := by
    rw [zipD_len] at l
    exact ⟨vs, ws, Evl.ex_t (e.trans rh.ex) hs, Evl.ex_t (e.trans rh.ex) hs2, by rw [← r.length, ← r2.length]; omega⟩
  go G' F h H i d e rh c q := by
    obtain ⟨x, y, h1, h2, _⟩ := zipD_get q
    obtain ⟨v, g1, _⟩ := r.get h1
    obtain ⟨w, g2, _⟩ := r2.get h2
    exact ⟨vs, ws, v, w, Evl.ex_t (e.trans rh.ex) hs, Evl.ex_t (e.trans rh.ex) hs2, g1, g2⟩
  yld G' F h H i d x0 H' e rh c q0 yy := by
    obtain ⟨x, y, h1, h2, rfl⟩ := zipD_get q0
    obtain ⟨v, g1, rv⟩ := r.get h1
    obtain ⟨w, g2, rw'⟩ := r2.get h2
    obtain ⟨T, a, b, rfl, hT, rfl, k1, k2⟩ := yy
    have q1 := k1 vs (Evl.ex_t (e.trans rh.ex) hs)
    have q2 := k2 ws (Evl.ex_t (e.trans rh.ex) hs2)
    rw [g1] at q1; rw [g2] at q2; cases q1; cases q2
    obtain ⟨ex, rh2, gp, _⟩ := rh.grow hT (.tup [v, w])
    exact ⟨_, ex, rh2, .tup (Or.inl (Or.inl gp)) (.cons (rv.mono (e.trans ex)) (.cons (rw'.mono (e.trans ex)) .nil))⟩
theorem i_zipL {ta : TA} (hl : dA K ta δ h (fun zs h1 => ∃ x y xs ys, zs = [x, y] ∧ IsL h1 x xs ∧ IsL h1 y ys ∧ Q' (zipD xs ys) (fun h' => IsL h' x xs ∧ IsL h' y ys) h1)) : dI K (iZipA K ta) δ h Q' := fun G F σ H rh sl R k => by
  refine hl G F σ H rh sl _ ?_
  rintro vs H1 ⟨G1, ds, h1, e1, rh1, rv, x, y, xs, ys, rfl, l1, l2, q⟩
  cases rv with
  | cons r0 r1 =>
    cases r1 with
    | cons r1 r2 =>
      cases r2
      obtain ⟨p, vs, rfl, hs, r⟩ := l1.of rh1 r0
      obtain ⟨p2, ws, rfl, hs2, r2⟩ := l2.of rh1 r1
      exact ⟨_, _, _, _, rfl, .inl ⟨hs, hs2, k _ _ G1 h1 _ _ e1 rh1 (src_z r0 r1) ⟨l1, l2⟩ q⟩⟩
theorem i_zipT {ta : TA} (hl : dA K ta δ h (fun zs h1 => ∃ xs ys, zs = [.tup xs, .tup ys] ∧ Q' (zipD xs ys) (fun _ => True) h1)) : dI K (iZipA K ta) δ h Q' := fun G F σ H rh sl R k => by
  refine hl G F σ H rh sl _ ?_
  rintro vs H1 ⟨G1, ds, h1, e1, rh1, rv, xs, ys, rfl, q⟩
  cases rv with
  | cons r0 r1 =>
    cases r1 with
    | cons r1 r2 =>
      cases r2
      cases r0 with
      | tup s0 q0 =>
        cases r1 with
        | tup s1 q1 => exact ⟨_, _, _, _, rfl, .inr ⟨Evl.ex_t rh1.ex s0, Evl.ex_t rh1.ex s1, k _ _ G1 h1 _ _ e1 rh1 (src_zT s0 q0 s1 q1) trivial q⟩⟩

/-! ### for, while -/
theorem s0_for (hi : dI K wi δ h (fun ds C h1 => ∃ P : Nat → DSt → DH → Prop, P 0 δ h1 ∧ (∀ i δ' h', P i δ' h' → C h') ∧
    (∀ i d δ' h', ds[i]? = some d → P i δ' h' → dG K g d δ' h' (fun δ2 h2 => dS0 K tu { E with nx := P (i + 1), ct := P (i + 1), bk := E.nx } δ2 h2)) ∧
    (∀ δ' h', P ds.length δ' h' → E.nx δ' h'))) : dS0 K (tFor wi g tu) E δ h := fun G F σ H rh sl Z l => by
  refine hi G F σ H rh sl _ ?_
  rintro J H1 G1 h1 ds C e1 rh1 src c0 ⟨P, p0, pc, ps, pd⟩
  refine ⟨fun i m σ H => m = ds.length - i ∧ i ≤ ds.length ∧ LS K G1 F (P i) σ H, ⟨ds.length, by simp, Nat.zero_le _, ⟨G1, δ, h1, Ex.refl _, rh1, sl_mono e1 sl, p0⟩⟩, ?_⟩
  rintro i m σ2 H2 ⟨rfl, hi, G2, δ2, h2, e2, rh2, sl2, p2⟩
  by_cases hlt : i < ds.length
  · have ed : ds[i]? = some ds[i] := by simp [hlt]
    refine .inr ⟨src.go G2 F h2 H2 i _ e2 rh2 (pc _ _ _ p2) ed, LS K G1 F (P (i + 1)), fun σ' H' q => ⟨ds.length - (i + 1), by omega, rfl, hlt, q⟩, ?_⟩
    intro x H3 y
    obtain ⟨G3, e3, rh3, rx⟩ := src.yld G2 F h2 H2 i _ x H3 e2 rh2 (pc _ _ _ p2) ed y
    refine ps i _ δ2 h2 ed p2 G3 F σ2 H3 x rh3 (sl_mono e3 sl2) rx _ ?_
    rintro σ4 H4 ⟨G4, δ4, h4, e4, rh4, sl4, q4⟩
    have e14 := e2.trans (e3.trans e4)
    exact q4 G4 F σ4 H4 rh4 sl4 _ ⟨fun σ' H' q => q.up e14, fun v H' q => l.2.1 _ _ (q.up (e1.trans e14)), fun σ' H' q => l.1 _ _ (q.up (e1.trans e14)), fun σ' H' q => q.up e14⟩
  · have e : i = ds.length := by omega
    subst e
    exact .inl ⟨src.stop G2 F h2 H2 _ e2 rh2 (pc _ _ _ p2) (Nat.le_refl _), l.1 _ _ ⟨G2, δ2, h2, e1.trans e2, rh2, sl2, pd _ _ p2⟩⟩
theorem s0_while (W : Nat → DSt → DH → Prop) (h0 : ∃ m, W m δ h)
    (hs : ∀ m δ' h', W m δ' h' → dT K c δ' h' (fun b h1 => (b = true → dS0 K tu { E with nx := fun δ2 h2 => ∃ m', m' < m ∧ W m' δ2 h2, ct := fun δ2 h2 => ∃ m', m' < m ∧ W m' δ2 h2, bk := E.nx } δ' h1) ∧ (b = false → E.nx δ' h1))) :
    dS0 K (tWhile c tu) E δ h := fun G F σ H rh sl Z l => by
  obtain ⟨m0, w0⟩ := h0
  refine ⟨fun m => LS K G F (W m), ⟨m0, ⟨G, δ, h, Ex.refl _, rh, sl, w0⟩⟩, ?_⟩
  rintro m σ1 H1 ⟨G1, δ1, h1, e1, rh1, sl1, w1⟩
  refine hs m δ1 h1 w1 G1 F σ1 H1 rh1 sl1 _ ?_
  rintro b H2 ⟨G2, h2, e2, rh2, q1, q2⟩
  cases b with
  | true =>
    rw [if_pos rfl]
    refine ⟨LS K G F (fun δ2 h2 => ∃ m', m' < m ∧ W m' δ2 h2), ?_, ?_⟩
    · rintro σ' H' ⟨G3, δ3, h3, e3, rh3, sl3, m', hm, w3⟩
      exact ⟨m', hm, G3, δ3, h3, e3, rh3, sl3, w3⟩
    · have e12 := e1.trans e2
      exact q1 rfl G2 F σ1 H2 rh2 (sl_mono e2 sl1) _ ⟨fun σ' H' q => q.up e12, fun v H' q => l.2.1 _ _ (q.up e12), fun σ' H' q => l.1 _ _ (q.up e12), fun σ' H' q => q.up e12⟩
  | false =>
    rw [if_neg Bool.false_ne_true]
    exact l.1 _ _ ⟨G2, δ1, h2, e1.trans e2, rh2, sl_mono e2 sl1, q2 rfl⟩

section
variable {nx bk ct : DP} {rt : DK}
theorem s_for (hi : dI K wi δ h (fun ds C h1 => ∃ P : Nat → DSt → DH → Prop, P 0 δ h1 ∧ (∀ i δ' h', P i δ' h' → C h') ∧
    (∀ i d δ' h', ds[i]? = some d → P i δ' h' → dG K g d δ' h' (dS K tu (P (i + 1)) rt nx (P (i + 1)))) ∧
    (∀ δ' h', P ds.length δ' h' → nx δ' h'))) : dS K (tFor wi g tu) nx rt bk ct δ h := s0_for (E := ⟨nx, rt, bk, ct⟩) hi
theorem s_while (W : Nat → DSt → DH → Prop) (h0 : ∃ m, W m δ h)
    (hs : ∀ m δ' h', W m δ' h' → dT K c δ' h' (fun b h1 => (b = true → dS K tu (fun δ2 h2 => ∃ m', m' < m ∧ W m' δ2 h2) rt nx (fun δ2 h2 => ∃ m', m' < m ∧ W m' δ2 h2) δ' h1) ∧ (b = false → nx δ' h1))) :
    dS K (tWhile c tu) nx rt bk ct δ h := s0_while (E := ⟨nx, rt, bk, ct⟩) W h0 hs
end
/-! ### list comprehensions -/
def dwipe (δ : DSt) : List Nat → DSt
  | [] => δ
  | v :: vs => (dwipe δ vs).set v none
theorem sl_wipe {σ : L2.St} (s : Sl K G δ σ) : ∀ vs : List Nat, Sl K G (dwipe δ vs) (wipe σ vs)
  | [] => s
  | v :: vs => sl_set .none v (sl_wipe s vs)
theorem wipe_set {σ : L2.St} {v : Option V} : ∀ {vs : List Nat} {i : Nat}, i ∈ vs → wipe (σ.set i v) vs = wipe σ vs
  | w :: vs, i, hm => by
    unfold wipe
    by_cases e : i ∈ vs
    · rw [wipe_set e]
    · have ei : i = w := by
        rcases List.mem_cons.mp hm with q | q
        · exact q
        · exact absurd q e
      subst ei
      have g : ∀ {us : List Nat}, i ∉ us → wipe (σ.set i v) us = (wipe σ us).set i v := by
        intro us
        induction us with
        | nil => intro _; rfl
        | cons a us ih =>
          intro hn
          simp only [List.mem_cons, not_or] at hn
          unfold wipe
          rw [ih hn.2, List.set_comm _ _ hn.1]
      rw [g e, List.set_set]
theorem wipe_sub {σ : L2.St} {vs : List Nat} : ∀ {us : List Nat}, (∀ i ∈ us, i ∈ vs) → wipe (wipe σ us) vs = wipe σ vs
  | [], _ => rfl
  | u :: us, hs => by
    show wipe ((wipe σ us).set u none) vs = wipe σ vs
    rw [wipe_set (hs u (List.mem_cons_self))]
    exact wipe_sub fun i hi => hs i (List.mem_cons_of_mem _ hi)
/-- a target that stores at vs alone -/
def GW (g : TG) (vs : List Nat) : Prop := ∀ (v : V) (σ : L2.St) (H : Hp) (Q : L2.St → Hp → Prop), g v σ H Q → g v σ H (fun σ2 H2 => wipe σ2 vs = wipe σ vs ∧ Q σ2 H2)
def GWs (g : TGs) (vs : List Nat) : Prop := ∀ (v : List V) (σ : L2.St) (H : Hp) (Q : L2.St → Hp → Prop), g v σ H Q → g v σ H (fun σ2 H2 => wipe σ2 vs = wipe σ vs ∧ Q σ2 H2)
theorem gw_name {i : Nat} {vs : List Nat} (e : i ∈ vs) : GW (gName i) vs := fun v σ H Q q => ⟨wipe_set e, q⟩
theorem gws_nil {vs : List Nat} : GWs gNil vs := fun v σ H Q q => ⟨q.1, rfl, q.2⟩
theorem gws_cons {g : TG} {gs : TGs} {vs : List Nat} (mono : ∀ v σ H (Q Q' : L2.St → Hp → Prop), (∀ s H, Q s H → Q' s H) → g v σ H Q → g v σ H Q') (h1 : GW g vs) (h2 : GWs gs vs) : GWs (gCons g gs) vs := fun v σ H Q q => by
  obtain ⟨x, r, rfl, q⟩ := q
  refine ⟨x, r, rfl, mono _ _ _ _ _ ?_ (h1 _ _ _ _ q)⟩
  rintro s H2 ⟨e, q2⟩
  have := h2 r s H2 _ q2
  rw [e] at this
  exact this
theorem gmono_name {i : Nat} : ∀ v σ H (Q Q' : L2.St → Hp → Prop), (∀ s H, Q s H → Q' s H) → gName i v σ H Q → gName i v σ H Q' := fun v σ H Q Q' k q => k _ _ q
theorem gmono_nil : ∀ v σ H (Q Q' : L2.St → Hp → Prop), (∀ s H, Q s H → Q' s H) → gNil v σ H Q → gNil v σ H Q' := fun v σ H Q Q' k q => ⟨q.1, k _ _ q.2⟩
theorem gmono_cons {g : TG} {gs : TGs} (m1 : ∀ v σ H (Q Q' : L2.St → Hp → Prop), (∀ s H, Q s H → Q' s H) → g v σ H Q → g v σ H Q') (m2 : ∀ v σ H (Q Q' : L2.St → Hp → Prop), (∀ s H, Q s H → Q' s H) → gs v σ H Q → gs v σ H Q') :
    ∀ v σ H (Q Q' : L2.St → Hp → Prop), (∀ s H, Q s H → Q' s H) → gCons g gs v σ H Q → gCons g gs v σ H Q' := fun v σ H Q Q' k q => by
  obtain ⟨x, r, rfl, q⟩ := q
  exact ⟨x, r, rfl, m1 _ _ _ _ _ (fun s H q => m2 _ _ _ _ _ k q) q⟩
theorem gmono_tup {n : Nat} {gs : TGs} (m2 : ∀ v σ H (Q Q' : L2.St → Hp → Prop), (∀ s H, Q s H → Q' s H) → gs v σ H Q → gs v σ H Q') :
    ∀ v σ H (Q Q' : L2.St → Hp → Prop), (∀ s H, Q s H → Q' s H) → gTup K n gs v σ H Q → gTup K n gs v σ H Q' := fun v σ H Q Q' k q => by
  obtain ⟨a, xs, rfl, h1, h2, q⟩ := q
  exact ⟨a, xs, rfl, h1, h2, m2 _ _ _ _ _ k q⟩
theorem gw_tup {n : Nat} {gs : TGs} {vs : List Nat} (h2 : GWs gs vs) : GW (gTup K n gs) vs := fun v σ H Q q => by
  obtain ⟨a, xs, rfl, h1, hn, q⟩ := q
  exact ⟨a, xs, rfl, h1, hn, h2 _ _ _ _ q⟩
/-- the list that is being made is held apart -/
theorem RH.hold (r : RH K G F h H) {p : Addr} (hp : H p = none) (u : HO) : RH K G (upd F p u) h (upd H p u) := by
  obtain ⟨_, _, _, gp, hh, hf⟩ := r.grow hp u
  refine ⟨fun a o e => ?_, fun a o e => ?_, fun a o e => ?_⟩
  · rw [upd_ne (ne_of_none e gp)]; exact r.ex a o e
  · by_cases z : a = p
    · subst z; rw [upd_same] at e; cases e; exact ⟨gp, hh, upd_same⟩
    · rw [upd_ne z] at e
      obtain ⟨e1, e2, e3⟩ := r.fr a o e
      exact ⟨e1, e2, by rw [upd_ne z]; exact e3⟩
  · obtain ⟨e1, u', e2, e3⟩ := r.own a o e
    have z : a ≠ p := ne_of_none e2 hp
    exact ⟨e1, u', by rw [upd_ne z]; exact e2, e3⟩
theorem RH.rehold {u u' : HO} (r : RH K G (upd F p u) h H) : RH K G (upd F p u') h (upd H p u') := by
  obtain ⟨gp, hh, hH⟩ := r.fr p u upd_same
  refine ⟨fun a o e => ?_, fun a o e => ?_, fun a o e => ?_⟩
  · rw [upd_ne (ne_of_none e gp)]; exact r.ex a o e
  · by_cases z : a = p
    · subst z; rw [upd_same] at e; cases e; exact ⟨gp, hh, upd_same⟩
    · rw [upd_ne z] at e
      obtain ⟨e1, e2, e3⟩ := r.fr a o (by rw [upd_ne z]; exact e)
      exact ⟨e1, e2, by rw [upd_ne z]; exact e3⟩
  · obtain ⟨e1, u2, e2, e3⟩ := r.own a o e
    have z : a ≠ p := fun z => by subst z; rw [hh] at e; cases e
    exact ⟨e1, u2, by rw [upd_ne z]; exact e2, e3⟩
theorem RH.release {u : HO} (r : RH K G (upd F p u) h H) (hF : F p = none) : Ex G (upd G p u) ∧ RH K (upd G p u) F h H ∧ upd G p u p = some u := by
  obtain ⟨gp, hh, hH⟩ := r.fr p u upd_same
  have ex : Ex G (upd G p u) := Ex.new gp
  refine ⟨ex, ⟨fun a o e => ?_, fun a o e => ?_, fun a o e => ?_⟩, upd_same⟩
  · by_cases z : a = p
    · subst z; rw [upd_same] at e; cases e; exact hH
    · rw [upd_ne z] at e; exact r.ex a o e
  · have z : a ≠ p := fun z => by subst z; rw [hF] at e; cases e
    obtain ⟨e1, e2, e3⟩ := r.fr a o (by rw [upd_ne z]; exact e)
    exact ⟨by rw [upd_ne z]; exact e1, e2, e3⟩
  · obtain ⟨e1, u2, e2, e3⟩ := r.own a o e
    have z : a ≠ p := fun z => by subst z; rw [hh] at e; cases e
    exact ⟨by rw [upd_ne z]; exact e1, u2, e2, e3.mono ex⟩
/-- .. to the owned ones -/
theorem RH.releaseO {u : HO} {o : DO} (r : RH K G (upd F p u) h H) (hF : F p = none) (ro : RpO K G o u) : h p = none ∧ RH K G F (dupd h p o) H := by
  obtain ⟨gp, hh, hH⟩ := r.fr p u upd_same
  refine ⟨hh, r.ex, fun a o e => ?_, fun a o e => ?_⟩
  · have z : a ≠ p := fun z => by subst z; rw [hF] at e; cases e
    obtain ⟨e1, e2, e3⟩ := r.fr a o (by rw [upd_ne z]; exact e)
    exact ⟨e1, by rw [du_ne z]; exact e2, e3⟩
  · by_cases z : a = p
    · subst z; rw [du_same] at e; cases e; exact ⟨gp, u, hH, ro⟩
    · rw [du_ne z] at e; exact r.own a o e
/-- P: by the turn, what is made so far, what is owned -/
theorem e_lcX {vs : List Nat} (hw : GW g vs) (hi : dI K wi δ h (fun ds C h1 => ds.length ≤ 100000 ∧ ∃ P : Nat → List D → DH → Prop, P 0 [] h1 ∧ (∀ i acc h', P i acc h' → C h') ∧
    (∀ i d acc h', ds[i]? = some d → P i acc h' → acc.length ≤ i → dG K g d (dwipe δ vs) h' (fun δ2 h2 => dT K tt δ2 h2 (fun b h3 => (b = true → dE K te δ2 h3 (fun y h4 => P (i + 1) (acc ++ [y]) h4)) ∧ (b = false → P (i + 1) acc h3)))) ∧
    (∀ acc h', P ds.length acc h' → Q (.lst acc) h' ∨ ∀ p, h' p = none → Q (.ref p) (dupd h' p (.lst acc))))) : dE K (tLc wi g tt te vs) δ h Q := fun G F σ H rh sl QV k => by
  refine hi G F σ H rh sl _ ?_
  rintro J H1 G1 h1 ds C e1 rh1 src c0 ⟨hz, P, p0, pc, ps, pd⟩
  intro p hp
  have hF : F p = none := (rh1.grow hp (.lst [])).2.2.2.2.2
  refine ⟨fun i m H => m = ds.length - i ∧ i ≤ ds.length ∧ ∃ G2 acc ws h2, Ex G1 G2 ∧ RH K G2 (upd F p (.lst ws)) h2 H ∧ Rps K G2 acc ws ∧ acc.length ≤ i ∧ P i acc h2,
    ⟨ds.length, by simp, Nat.zero_le _, G1, [], [], h1, Ex.refl _, rh1.hold hp _, .nil, Nat.le_refl _, p0⟩, ?_⟩
  rintro i m H2 ⟨rfl, hi, G2, acc, ws, h2, e2, rh2, ra, hl, p2⟩
  by_cases hlt : i < ds.length
  · have ed : ds[i]? = some ds[i] := by simp [hlt]
    refine .inr ⟨src.go G2 _ h2 H2 i _ e2 rh2 (pc _ _ _ p2) ed, fun H => ∃ G2 acc ws h2, Ex G1 G2 ∧ RH K G2 (upd F p (.lst ws)) h2 H ∧ Rps K G2 acc ws ∧ acc.length ≤ i + 1 ∧ P (i + 1) acc h2, fun H' q => ⟨ds.length - (i + 1), by omega, rfl, hlt, q⟩, ?_⟩
    intro x H3 y
    obtain ⟨G3, e3, rh3, rx⟩ := src.yld G2 _ h2 H2 i _ x H3 e2 rh2 (pc _ _ _ p2) ed y
    have hw2 := hw x (wipe σ vs) H3
    rw [wipe_sub (fun i hi => hi)] at hw2
    refine hw2 _ ?_
    refine ps i _ acc h2 ed p2 hl G3 _ (wipe σ vs) H3 x rh3 (sl_mono (e1.trans (e2.trans e3)) (sl_wipe sl vs)) rx _ ?_
    rintro σ4 H4 ⟨G4, δ4, h4, e4, rh4, sl4, q4⟩
    refine q4 G4 _ σ4 H4 rh4 sl4 _ ?_
    rintro b H5 ⟨G5, h5, e5, rh5, q5, q6⟩
    cases b with
    | true =>
      rw [if_pos rfl]
      refine q5 rfl G5 _ σ4 H5 rh5 (sl_mono e5 sl4) _ ?_
      rintro v H6 ⟨G6, d6, h6, e6, rh6, rv, p6⟩
      refine ⟨ws, (rh6.fr p _ upd_same).2.2, Evl.sz_lt (by rw [← ra.length]; omega), G6, acc ++ [d6], ws ++ [v], h6, e2.trans (e3.trans (e4.trans (e5.trans e6))), rh6.rehold, ?_, by rw [List.length_append]; simp; omega, p6⟩
      exact (ra.mono (e3.trans (e4.trans (e5.trans e6)))).append (.cons rv .nil)
    | false =>
      rw [if_neg Bool.false_ne_true]
      exact ⟨G5, acc, ws, h5, e2.trans (e3.trans (e4.trans e5)), rh5, ra.mono (e3.trans (e4.trans e5)), by omega, q6 rfl⟩
  · have e : i = ds.length := by omega
    subst e
    refine .inl ⟨src.stop G2 _ h2 H2 _ e2 rh2 (pc _ _ _ p2) (Nat.le_refl _), ?_⟩
    rcases pd _ _ p2 with q | q
    · obtain ⟨ex, rh3, gp⟩ := rh2.release hF
      exact k _ _ ⟨_, .lst acc, h2, e1.trans (e2.trans ex), rh3, .lst gp (ra.mono ex), q⟩
    · obtain ⟨hh, rh3⟩ := rh2.releaseO (o := .lst acc) hF ra
      exact k _ _ ⟨_, .ref p, _, e1.trans e2, rh3, .ref p, q p hh⟩

/-- every item's value, nothing owned changed -/
theorem e_lcM {vs : List Nat} (hw : GW g vs) (hi : dI K wi δ h (fun ds C h1 => ds.length ≤ 100000 ∧ C h1 ∧ ∃ ys : List D, ys.length = ds.length ∧
    (∀ (i : Nat) d, ds[i]? = some d → dG K g d (dwipe δ vs) h1 (fun δ2 h2 => dE K te δ2 h2 (fun y h3 => h3 = h1 ∧ ys[i]? = some y))) ∧ Q (.lst ys) h1)) : dE K (tLc wi g tYes te vs) δ h Q := by
  refine e_lcX hw ?_
  intro G F σ H rh sl R k
  refine hi G F σ H rh sl _ ?_
  rintro J H' G' h' ds C e1 rh1 src c0 ⟨hz, hc, ys, hl, hs, q⟩
  refine k J H' G' h' ds C e1 rh1 src c0 ⟨hz, fun i acc h2 => h2 = h' ∧ acc = ys.take i, ⟨rfl, rfl⟩, ?_, ?_, ?_⟩
  · rintro i acc h2 ⟨rfl, _⟩
    exact hc
  · rintro i d acc h2 hd ⟨rfl, rfl⟩ _
    intro G F σ H v rh sl rv QV k
    refine hs i d hd G F σ H v rh sl rv QV ?_
    rintro σ' H' ⟨G', δ', h', e, rh', sl', q'⟩
    refine k _ _ ⟨G', δ', h', e, rh', sl', ?_⟩
    intro G F σ H rh sl QB kb
    refine kb _ _ ⟨G, h', Ex.refl _, rh, fun _ => ?_, fun e => Bool.noConfusion e⟩
    intro G F σ H rh sl QV kv
    refine q' G F σ H rh sl QV ?_
    rintro v' H'' ⟨G'', d'', h'', e'', rh'', rv'', rfl, ey⟩
    refine kv _ _ ⟨G'', d'', _, e'', rh'', rv'', rfl, ?_⟩
    rw [List.take_add_one, ey]
    rfl
  · rintro acc h2 ⟨rfl, rfl⟩
    left
    rw [← hl, List.take_length]
    exact q
/-! ### defs -/
abbrev DX := Addr → Option (List (Str × D)) → DH → Prop
def XD (K : PySem.W.Frag) (G : Hp) : Option (List (Str × D)) → Option Addr → Prop
  | none, dd => dd = none
  | some fs, dd => ∃ a gs, dd = some a ∧ G a = some (.xd gs) ∧ RpF K G fs gs
def LX (K : PySem.W.Frag) (G F : Hp) (QE : DX) : XK := fun cls dd H' => ∃ C o G' h', cls = .ref C ∧ Ex G G' ∧ RH K G' F h' H' ∧ XD K G' o dd ∧ QE C o h'
abbrev DSp := List D → DH → DK → DX → Prop
def X0 : DX := fun _ _ _ => False
def upSp (K : PySem.W.Frag) (sp : DSp) : Sp := fun vs H Q E => ∃ G F ds h QD QX, RH K G F h H ∧ Rps K G ds vs ∧ sp ds h QD QX ∧ (∀ v H', LV K G F QD v H' → Q v H') ∧ (∀ c d H', LX K G F QX c d H' → E c d H')
theorem e_call {sp : DSp} {EX : XK} {ta : TA} (he : dA K ta δ h (fun ds h1 => sp ds h1 Q X0)) : dE K (tCall (upSp K sp) [] EX ta) δ h Q := fun G F σ H rh sl QV k => by
  refine he G F σ H rh sl _ ?_
  rintro vs H1 ⟨G1, ds, h1, e1, rh1, rv, q⟩
  rw [List.append_nil]
  refine ⟨G1, F, ds, h1, Q, X0, rh1, rv, q, fun v H' l => k v H' (l.up e1), ?_⟩
  rintro c d H' ⟨C, o, G', h', _, _, _, _, z⟩
  exact z.elim
def dstart (N : List Str) (ds : List D) : DSt := ds.map some ++ List.replicate (N.length - ds.length) none
theorem sl_start {N : List Str} : ∀ {ds : List D} {vs : List V}, Rps K G ds vs → Sl K G (dstart N ds) (L2.start N vs) := by
  intro ds vs r
  unfold dstart L2.start
  rw [← r.length]
  have a : ∀ n, Sl K G (List.replicate n none) (List.replicate n none) := by
    intro n
    induction n with
    | zero => exact .nil
    | succ n ih => exact .cons .none ih
  have g : ∀ {ds : List D} {vs : List V} (n : Nat), Rps K G ds vs → Sl K G (ds.map some ++ List.replicate n none) (vs.map some ++ List.replicate n none) := by
    intro ds
    induction ds with
    | nil => intro vs n r; cases r; exact a n
    | cons d ds ih =>
      intro vs n r
      cases r with
      | cons h r => exact .cons (.some h) (ih n r)
  exact g _ r
/-- a def's body -/
def noP : DP := fun _ _ => False
abbrev dB (K : PySem.W.Frag) (t : TS) (N : List Str) (ds : List D) (h : DH) (QD : DK) : Prop := dS K t (fun _ h' => QD .non h') QD noP noP (dstart N ds) h
theorem body_ok {sp : DSp} {t : TS} {N : List Str} (hb : ∀ ds h QD QX, sp ds h QD QX → dB K t N ds h QD) (vs : List V) (H : Hp) (Q : VK) (E : XK) (hs : upSp K sp vs H Q E) :
    t { nx := fun _ H' => Q .non H', rt := Q } (L2.start N vs) H := by
  obtain ⟨G, F, ds, h, QD, QX, rh, rv, q, k, _⟩ := hs
  refine hb ds h QD QX q G F _ H rh (sl_start rv) _ ⟨?_, k, ?_, ?_⟩
  · rintro σ' H' ⟨G', δ', h', e, rh', sl', q'⟩
    exact k _ _ ⟨G', .non, h', e, rh', .non, q'⟩
  · rintro σ' H' ⟨G', δ', h', e, rh', sl', q'⟩
    exact q'.elim
  · rintro σ' H' ⟨G', δ', h', e, rh', sl', q'⟩
    exact q'.elim
theorem len_up {sp : DSp} {n : Nat} (hl : ∀ ds h QD QX, sp ds h QD QX → ds.length = n) : ∀ vs H Q E, upSp K sp vs H Q E → vs.length = n := by
  rintro vs H Q E ⟨G, F, ds, h, QD, QX, rh, rv, q, _⟩
  rw [← rv.length]
  exact hl _ _ _ _ q

/-! ### methods of lists -/
theorem e_bmL {ta : TE} {t : TA} {rm : V → List V → Hp → VK → Prop} (ho : dE K ta δ h (fun o h1 => ∃ ds, IsL h1 o ds ∧ dA K t δ h1 (fun xs h2 => dM K rm o xs h2 Q))) : dE K (tBM K "list" rm ta t) δ h Q := fun G F σ H rh sl QV k => by
  refine ho G F σ H rh sl _ ?_
  rintro v H1 ⟨G1, d, h1, e1, rh1, rv, ds, l, q⟩
  obtain ⟨p, ws, rfl, s1, r1⟩ := l.of rh1 rv
  refine ⟨Or.inl ⟨rfl, ws, s1⟩, ?_⟩
  refine q G1 F σ H1 rh1 (sl_mono e1 sl) _ ?_
  rintro vs H2 ⟨G2, xs, h2, e2, rh2, rs, q2⟩
  exact q2 G2 F H2 _ vs rh2 (rv.mono e2) rs QV fun z H3 l => k z H3 (l.up (e1.trans e2))
theorem e_bmL0 {ta : TE} {rm : V → List V → Hp → VK → Prop} (ho : dE K ta δ h (fun o h1 => ∃ ds, IsL h1 o ds ∧ dM K rm o [] h1 Q)) : dE K (tBM0 K "list" rm ta) δ h Q := fun G F σ H rh sl QV k => by
  refine ho G F σ H rh sl _ ?_
  rintro v H1 ⟨G1, d, h1, e1, rh1, rv, ds, l, q⟩
  obtain ⟨p, ws, rfl, s1, r1⟩ := l.of rh1 rv
  exact ⟨Or.inl ⟨rfl, ws, s1⟩, q G1 F H1 _ [] rh1 rv .nil QV fun z H3 l => k z H3 (l.up e1)⟩
theorem m_append {l : Addr} (e : h l = some (.lst ds)) (hz : ds.length < 100000) (q : Q .non (dupd h l (.lst (ds ++ [x])))) : dM K rAppend (.ref l) [x] h Q := fun G F H vx vs rh rx rs QV k => by
  cases rx
  cases rs with
  | cons r0 r1 =>
    cases r1
    obtain ⟨_, u, e1, e2⟩ := rh.own _ _ e
    obtain ⟨ws, rfl, rw'⟩ := rpo_lst e2
    refine ⟨l, ws, _, rfl, rfl, e1, Evl.sz_lt (by rw [← rw'.length]; exact hz), k _ _ ⟨G, .non, _, Ex.refl G, rh.write e (o := .lst (ds ++ [x])) (u := .lst (ws ++ [_])) (rw'.append (.cons r0 .nil)), .non, q⟩⟩
end
end DL
set_option maxHeartbeats 4000000
/-! DL: a tuple once, a tuple never. -/
namespace L2
open PySem PySem.Spec PyProof.Rows
theorem tuple_mul1 (l : Addr) (items : Array Value) (n : Nat) (dd : Option Addr) (sl : Array (Option Value)) (u : Tok) :
    Meets (Builtin.«tuple.__mul__» ⟨[.ref l, .int 1 u], []⟩) (fun _ R s => s.heap.get? l = some { cls := .type "tuple", dict := dd, data := .seq items n, slots := sl } ∧
      R (.ok (.ret (Value.ref l))) s) :=
  .of_wp fun prog w A R s h => by
    obtain ⟨hp, g, d, tk, os⟩ := s
    obtain ⟨hl, h⟩ := h
    have f1 := AutoSeq1.idx_int
    have c0 : (decide ((1 : Int) < -(2 ^ 63)) || decide ((1 : Int) ≥ 2 ^ 63)) = false := by decide
    have c1 : (items.isEmpty || (1 : Int) == 1) = true := by simp
    have hT : Shared.TypeIs ⟨hp, g, d, tk, os⟩ (.ref l) "tuple" := ⟨_, hl, rfl⟩
    wp_walk using wpAny_loadPart' hl
    repeat (first
      | (refine wpAny_ite_false (decide_eq_false (by rw [c0]; exact Bool.false_ne_true)) ?_; wp_walk using wpAny_loadPart' hl)
      | (refine wpAny_ite_true (decide_eq_true c1) ?_; wp_walk using wpAny_loadPart' hl, wpAny_typeOf hT))
    exact ⟨_, rfl, h⟩
theorem tuple_mul0 (l : Addr) (items : Array Value) (n : Nat) (dd : Option Addr) (sl : Array (Option Value)) (x : Int) (u : Tok) (c0 : (decide (x < -(2 ^ 63)) || decide (x ≥ 2 ^ 63)) = false) (c1 : (items.isEmpty || x == 1) = false) (c2 : (decide (x ≤ 0) || items.isEmpty) = true) :
    Meets (Builtin.«tuple.__mul__» ⟨[.ref l, .int x u], []⟩) (fun _ R s => s.heap.get? l = some { cls := .type "tuple", dict := dd, data := .seq items n, slots := sl } ∧
      R (.ok (.ret (Value.ref s.heap.objs.size))) { s with heap := s.heap.push { cls := Value.type "tuple", data := Data.seq #[] }, toks := s.toks }) :=
  .of_wp fun prog w A R s h => by
    obtain ⟨hp, g, d, tk, os⟩ := s
    obtain ⟨hl, h⟩ := h
    have f1 := AutoSeq1.idx_int
    wp_walk using wpAny_loadPart' hl
    repeat (first
      | (refine wpAny_ite_false (decide_eq_false (by rw [c0]; exact Bool.false_ne_true)) ?_; wp_walk using wpAny_loadPart' hl)
      | (refine wpAny_ite_false (decide_eq_false (by rw [c1]; exact Bool.false_ne_true)) ?_; wp_walk using wpAny_loadPart' hl)
      | (refine wpAny_ite_true (decide_eq_true c2) ?_; wp_walk using wpAny_loadPart' hl))
    exact ⟨_, rfl, h⟩
end L2
set_option maxHeartbeats 2000000
/-! DL: operators of any kind of value. -/
namespace L2
open PySem PySem.Spec PyProof.Rows
/-- tuple * k, k any small number -/
def rRepTA (K : PySem.W.Frag) : R2 := fun x y H Q => ∃ l k xs, x = .ref l ∧ y = .int k ∧ SqT K H l xs ∧ xs ≠ [] ∧ -1000 ≤ k ∧ k ≤ 1000 ∧ xs.length ≤ 1000 ∧ (k = 1 → Q (.ref l) H) ∧
  (k ≠ 1 → ∀ p, H p = none → Q (.ref p) (upd H p (.tup (List.replicate k.toNat xs).flatten)))
section
variable {X : Cx}
theorem op_repTA : OpR X (binaryOp .Mult) (rRepTA X.K) := by
  intro pins s σ H x y v u Q I rx ry h
  obtain ⟨l, k, xs, rfl, rfl, hT, hne, hk0, hk1, hz, q1, q2⟩ := h
  by_cases h2 : 2 ≤ k
  · exact op_repT pins s σ H _ _ v u Q I rx ry ⟨l, k, xs, rfl, rfl, hT, hne, h2, hk1, hz, q2 (by omega)⟩
  cases rx
  obtain ⟨t, rfl⟩ := ry
  obtain ⟨its, r, ⟨⟨cls, dd, data, sl⟩, ho, hc, n, hd⟩, hs⟩ := I.tuple hT
  simp only at hc hd
  subst hc hd
  have hle : its.length = xs.length := r.length.symm
  have hn : its ≠ [] := fun e => hne (by
    rw [e] at hle
    exact List.eq_nil_of_length_eq_zero hle.symm)
  have hi : its.toArray.isEmpty = false := by
    cases its with
    | nil => exact absurd rfl hn
    | cons a b => rfl
  by_cases e1 : k = 1
  · subst e1
    exact wpAny_binaryOp_repeat_ref (T := "tuple") (U := "int") (by decide) ⟨_, ho, rfl⟩ (fun s' => typeIs_int s' 1 t) noFill_tuple_mul F.fills_int_mul F.slot_int_rmul repeat_tuple F.slot_int_index.lookup
      (call_meets F.slot_int_rmul (typeIs_int s 1 t) F.entry_int_rmul (F.args_int_rmul_2 _ _) (int_rmul_tuple 1 t l its.toArray n dd sl)
        ⟨ho, rfl, ⟨_, ho, rfl⟩, call_meets F.slot_tuple_mul ⟨_, ho, rfl⟩ F.entry_tuple_mul (F.args_tuple_mul_2 _ _) (tuple_mul1 l its.toArray n dd sl t) ⟨ho, ⟨.ref l, H, I, rfl, q1 rfl⟩⟩⟩)
  · have c0 : (decide (k < -(2 ^ 63)) || decide (k ≥ 2 ^ 63)) = false := by
      rw [decide_eq_false (by omega), decide_eq_false (by omega)] <;> rfl
    have c1 : (its.toArray.isEmpty || k == 1) = false := by
      rw [hi, Bool.false_or]
      exact beq_eq_false_iff_ne.mpr e1
    have c2 : (decide (k ≤ 0) || its.toArray.isEmpty) = true := by
      rw [hi, Bool.or_false]
      exact decide_eq_true (by omega)
    have ez : k.toNat = 0 := by omega
    have q := q2 e1
    rw [ez] at q
    refine wpAny_binaryOp_repeat_ref (T := "tuple") (U := "int") (by decide) ⟨_, ho, rfl⟩ (fun s' => typeIs_int s' k t) noFill_tuple_mul F.fills_int_mul F.slot_int_rmul repeat_tuple F.slot_int_index.lookup
      (call_meets F.slot_int_rmul (typeIs_int s k t) F.entry_int_rmul (F.args_int_rmul_2 _ _) (int_rmul_tuple k t l its.toArray n dd sl)
        ⟨ho, rfl, ⟨_, ho, rfl⟩, call_meets F.slot_tuple_mul ⟨_, ho, rfl⟩ F.entry_tuple_mul (F.args_tuple_mul_2 _ _) (tuple_mul0 l its.toArray n dd sl k t c0 c1 c2) ⟨ho, ?_⟩⟩)
    refine ⟨.ref s.heap.objs.size, _, I.laid (t' := s.toks) (o := .tup []) (fun b ob q => Heap.get?_push_of_some _ q) (Nat.le_refl _) ?_, rfl, q _ (I.hok.fresh (Nat.le_refl _))⟩
    exact ⟨by rw [sizeLine_eq]; decide, _, .nil, IsTup.new _ _⟩
end
end L2

namespace DL
open PySem L2 RZ
open Evl (Ex)
theorem hu64 {A : Around} {k : Nat} (hr : Room k A) : A.units + 64 < cLine := by have := hr.un; omega
/-! ### operators -/
def rIAdd : R2 := rI0 fun i j => .int (i + j)
def rStrCat : R2 := fun x y H Q => ∃ i j, x = .str i ∧ y = .str j ∧ i.length + j.length ≤ sizeLine ∧ Q (.str (i ++ j)) H
def rAddX (K : PySem.W.Frag) : R2 := fun x y H Q => rIAdd x y H Q ∨ (rCat x y H Q ∨ (rCatA K x y H Q ∨ rStrCat x y H Q))
theorem op_addX {X : Cx} : OpR X (binaryOp .Add) (rAddX X.K) := op_add.or (op_cat.or (op_catA.or op_add_str))
def rIMul : R2 := rI CMul fun i j => .int (i * j)
def rMulX (K : PySem.W.Frag) : R2 := fun x y H Q => rIMul x y H Q ∨ (rRep x y H Q ∨ rRepTA K x y H Q)
theorem op_mulX' {X : Cx} : OpR X (binaryOp .Mult) (rMulX X.K) := op_mul.or (op_rep.or op_repTA)
def rISub : R2 := rI0 fun i j => .int (i - j)
theorem op_subX {X : Cx} : OpR X (binaryOp .Sub) rISub := op_sub
def rIDiv : R2 := rI CDivN fun i j => .int (i.fdiv j)
theorem op_divX {X : Cx} : OpR X (binaryOp .FloorDiv) rIDiv := op_fdivN
def rIMod : R2 := rI (fun _ j => j ≠ 0) fun i j => .int (i.fmod j)
theorem op_modX {X : Cx} : OpR X (binaryOp .Mod) rIMod := op_modN
def rIPow : R2 := rI CPow fun i j => .int (i ^ j.toNat)
theorem op_powX {X : Cx} : OpR X (binaryOp .Pow) rIPow := op_pow
def rILt : R2 := rI0 fun i j => .bl (decide (i < j))
def rILe : R2 := rI0 fun i j => .bl (decide (i ≤ j))
def rIGt : R2 := rI0 fun i j => .bl (decide (j < i))
def rIGe : R2 := rI0 fun i j => .bl (decide (j ≤ i))
def rLtX (K : PySem.W.Frag) : R2 := fun x y H Q => rILt x y H Q ∨ rLtT K x y H Q
theorem op_ltX {X : Cx} (hu : X.A.units + 64 < cLine) : OpR X (compareOp .Lt) (rLtX X.K) := op_lt.or (op_ltT (by omega))
theorem op_leX {X : Cx} : OpR X (compareOp .LtE) rILe := op_le
theorem op_gtX {X : Cx} : OpR X (compareOp .Gt) rIGt := op_gt
theorem op_geX {X : Cx} : OpR X (compareOp .GtE) rIGe := op_ge
def rEqX (K : PySem.W.Frag) : R2 := fun x y H Q => rEq x y H Q ∨ rEqD K x y H Q
theorem op_eqX {X : Cx} (hu : X.A.units + 64 < cLine) : OpR X (compareOp .Eq) (rEqX X.K) := op_eq.or (op_eqD hu)
def rNeX (K : PySem.W.Frag) : R2 := fun x y H Q => rNe x y H Q ∨ rNeD K x y H Q
theorem op_neX {X : Cx} (hu : X.A.units + 64 < cLine) : OpR X (compareOp .NotEq) (rNeX X.K) := op_ne.or (op_neD hu)
def rLenS2 (K : PySem.W.Frag) : List V → Hp → VK → Prop := fun xs H Q => ∃ z, xs = [.str z] ∧ z.length ≤ sizeLine ∧ Q (.int z.length) H
def rLenD2 (K : PySem.W.Frag) : List V → Hp → VK → Prop := fun xs H Q => ∃ a kvs, xs = [V.ref a] ∧ H a = some (.dK kvs) ∧ Q (.int kvs.length) H
def rLenX (K : PySem.W.Frag) : List V → Hp → VK → Prop := fun xs H Q => Evl.rLenS K xs H Q ∨ (rLenS2 K xs H Q ∨ rLenD2 K xs H Q)
theorem CallR.or {X : Cx} {f : Value} {r r' : List V → Hp → VK → Prop} (h : CallR X f r) (h' : CallR X f r') : CallR X f (fun xs H Q => r xs H Q ∨ r' xs H Q) := by
  intro pins s σ H xs us Q I rs q
  rcases q with q | q
  · exact h pins s σ H xs us Q I rs q
  · exact h' pins s σ H xs us Q I rs q
theorem call_lenX {X : Cx} : CallR X (.builtin "len") (rLenX X.K) := CallR.or (r := Evl.rLenS X.K) (r' := fun xs H Q => rLenS2 X.K xs H Q ∨ rLenD2 X.K xs H Q) call_len_seq (CallR.or (r := rLenS2 X.K) (r' := rLenD2 X.K) call_len_str call_lenD)
def rIsiX (K : PySem.W.Frag) : List V → Hp → VK → Prop := fun xs H Q => rIsi K xs H Q ∨ rIsiT K xs H Q
theorem call_isiX {X : Cx} : CallR X (.builtin "isinstance") (rIsiX X.K) := CallR.or call_isi call_isiT
theorem call_listX {X : Cx} : CallR X (.type "list") (Evl.rListS X.K) := call_list_of
def rAbs1 : List V → Hp → VK → Prop := fun xs H Q => ∃ i, xs = [.int i] ∧ Q (.int (if i < 0 then -i else i)) H
theorem call_absX {X : Cx} : CallR X (.builtin "abs") rAbs1 := call_abs
def rMax2' : List V → Hp → VK → Prop := fun xs H Q => ∃ i j, xs = [.int i, .int j] ∧ Q (.int (if j > i then j else i)) H
def rMin2' : List V → Hp → VK → Prop := fun xs H Q => ∃ i j, xs = [.int i, .int j] ∧ Q (.int (if j < i then j else i)) H
theorem call_maxX {X : Cx} (hc : X.calm = true) : CallR X (.builtin "max") rMax2' := call_max2 hc
theorem call_minX {X : Cx} (hc : X.calm = true) : CallR X (.builtin "min") rMin2' := call_min2 hc

section
variable {K : PySem.W.Frag} {G G' F H H' : Hp} {h h' : DH} {Q : DK} {Q' : List D → DH → Prop} {δ : DSt} {d x y z : D} {ds xs : List D} {ta tb tc te tl : TE} {t u c : TT} {E : DEnds} {ts tu tw : TS} {a p : Addr} {i : Nat} {r r' : R2} {wi : TI} {g : TG} {tt : TT}
theorem r_addI {n m : Int} (q : Q (.int (n + m)) h) : dR K (rAddX K) (.int n) (.int m) h Q := fun G F H vx vy rh rx ry QV k => Or.inl (r_I0 (fun _ => .int _) q G F H vx vy rh rx ry QV k)
theorem r_addS {n m : Str} (hl : n.length + m.length ≤ 100000) (q : Q (.str (n ++ m)) h) : dR K (rAddX K) (.str n) (.str m) h Q := fun G F H vx vy rh rx ry QV k => by
  cases rx; cases ry
  exact Or.inr (Or.inr (Or.inr ⟨n, m, rfl, rfl, Evl.sz_of hl, k _ _ (.of rh (.str _) q)⟩))
/-- lists that are frozen or owned -/
inductive IsM (h : DH) : D → List D → Prop
  | frz (ds : List D) : IsM h (.lst ds) ds
  | own {a : Addr} {ds : List D} (e : h a = some (.lst ds)) : IsM h (.ref a) ds
theorem IsM.of (l : IsM h x ds) (rh : RH K G F h H) {v : V} (r : Rp K G x v) : ∃ p vs, v = .ref p ∧ H p = some (.lst vs) ∧ Rps K G ds vs := by
  cases l with
  | frz =>
    cases r with
    | lst hs r => exact ⟨_, _, rfl, rh.ex _ _ hs, r⟩
  | own e =>
    cases r
    obtain ⟨_, u, e2, e3⟩ := rh.own _ _ e
    obtain ⟨vs, rfl, rv⟩ := rpo_lst e3
    exact ⟨_, vs, rfl, e2, rv⟩
theorem r_addL {es : List D} (l : IsM h x ds) (m : IsM h y es) (hl : ds.length + es.length ≤ 100000) (q : Q (.lst (ds ++ es)) h) : dR K (rAddX K) x y h Q := fun G F H vx vy rh rx ry QV k => by
  obtain ⟨p, vs, rfl, h1, r1⟩ := l.of rh rx
  obtain ⟨p2, ws, rfl, h2, r2⟩ := m.of rh ry
  refine Or.inr (Or.inl ⟨p, p2, vs, ws, rfl, rfl, h1, h2, Evl.sz_of (by rw [← r1.length, ← r2.length]; exact hl), fun p' hp => ?_⟩)
  obtain ⟨ex, rh2, gp, _⟩ := rh.grow hp (.lst (vs ++ ws))
  exact k _ _ ⟨_, _, h, ex, rh2, .lst gp ((r1.append r2).mono ex), q⟩
theorem r_addLO {es : List D} (l : IsM h x ds) (m : IsM h y es) (hl : ds.length + es.length ≤ 100000) (q : ∀ p, h p = none → Q (.ref p) (dupd h p (.lst (ds ++ es)))) : dR K (rAddX K) x y h Q := fun G F H vx vy rh rx ry QV k => by
  obtain ⟨p, vs, rfl, h1, r1⟩ := l.of rh rx
  obtain ⟨p2, ws, rfl, h2, r2⟩ := m.of rh ry
  refine Or.inr (Or.inl ⟨p, p2, vs, ws, rfl, rfl, h1, h2, Evl.sz_of (by rw [← r1.length, ← r2.length]; exact hl), fun p' hp => ?_⟩)
  obtain ⟨hh, rh2⟩ := rh.alloc hp (o := .lst (ds ++ es)) (u := .lst (vs ++ ws)) (r1.append r2)
  exact k _ _ ⟨_, _, _, Ex.refl G, rh2, .ref p', q p' hh⟩
theorem r_addT {es : List D} (hl : ds.length + es.length ≤ 100000) (q : Q (.tup (ds ++ es)) h) : dR K (rAddX K) (.tup ds) (.tup es) h Q := fun G F H vx vy rh rx ry QV k => by
  cases rx with
  | tup s1 r1 =>
    cases ry with
    | tup s2 r2 =>
      refine Or.inr (Or.inr (Or.inl ⟨_, _, _, _, rfl, rfl, Evl.ex_t rh.ex s1, Evl.ex_t rh.ex s2, Evl.sz_of (by rw [← r1.length, ← r2.length]; exact hl), fun e => ?_, fun e e2 => ?_, fun e e2 p' hp => ?_⟩))
      · have e' := r1.nil_iff.mp e
        subst e'
        exact k _ _ (.of rh (.tup s2 r2) q)
      · have e' := r2.nil_iff.mp e2
        subst e'
        rw [List.append_nil] at q
        exact k _ _ (.of rh (.tup s1 r1) q)
      · obtain ⟨ex, rh2, gp, _⟩ := rh.grow hp (.tup _)
        exact k _ _ ⟨_, _, h, ex, rh2, .tup (Or.inl (Or.inl gp)) ((r1.append r2).mono ex), q⟩
theorem r_mulI {n m : Int} (hc : CMul n m) (q : Q (.int (n * m)) h) : dR K (rMulX K) (.int n) (.int m) h Q := fun G F H vx vy rh rx ry QV k => Or.inl (r_I (fun _ => .int _) hc q G F H vx vy rh rx ry QV k)
theorem rps_rep {vs : List V} (r : Rps K G ds vs) : ∀ n : Nat, Rps K G (List.replicate n ds).flatten (List.replicate n vs).flatten
  | 0 => .nil
  | n + 1 => by
    rw [List.replicate_succ, List.replicate_succ, List.flatten_cons, List.flatten_cons]
    exact r.append (rps_rep r n)
theorem r_mulT {n : Int} (hn : -1000 ≤ n ∧ n ≤ 1000) (hd : ds ≠ []) (hl : ds.length ≤ 1000) (q : Q (.tup (List.replicate n.toNat ds).flatten) h) : dR K (rMulX K) (.tup ds) (.int n) h Q := fun G F H vx vy rh rx ry QV k => by
  cases rx with
  | tup s1 r1 =>
    cases ry
    refine Or.inr (Or.inr ⟨_, n, _, rfl, rfl, Evl.ex_t rh.ex s1, fun e => hd (r1.nil_iff.mp e), hn.1, hn.2, by rw [← r1.length]; exact hl, fun e => ?_, fun e p' hp => ?_⟩)
    · subst e
      have e2 : (List.replicate (1 : Int).toNat ds).flatten = ds := by simp
      rw [e2] at q
      exact k _ _ (.of rh (.tup s1 r1) q)
    · obtain ⟨ex, rh2, gp, _⟩ := rh.grow hp (.tup _)
      exact k _ _ ⟨_, _, h, ex, rh2, .tup (Or.inl (Or.inl gp)) ((rps_rep r1 _).mono ex), q⟩
theorem r_mulL {n : Int} (l : IsM h x ds) (hn : -1000 ≤ n ∧ n ≤ 1000) (hl : ds.length ≤ 100) (q : ∀ p, h p = none → Q (.ref p) (dupd h p (.lst (List.replicate n.toNat ds).flatten))) : dR K (rMulX K) x (.int n) h Q := fun G F H vx vy rh rx ry QV k => by
  obtain ⟨p, vs, rfl, h1, r1⟩ := l.of rh rx
  cases ry
  refine Or.inr (Or.inl ⟨p, n, vs, rfl, rfl, h1, by omega, by omega, Evl.sz_of ?_, fun p' hp => ?_⟩)
  · rw [← r1.length]
    have := Nat.mul_le_mul hl (show n.toNat ≤ 1000 by omega)
    omega
  · obtain ⟨hh, rh2⟩ := rh.alloc hp (o := .lst _) (u := .lst _) (rps_rep r1 n.toNat)
    exact k _ _ ⟨_, _, _, Ex.refl G, rh2, .ref p', q p' hh⟩
theorem r_subI {n m : Int} (q : Q (.int (n - m)) h) : dR K rISub (.int n) (.int m) h Q := r_I0 (fun _ => .int _) q
theorem r_divI {n m : Int} (hm : 0 < m) (hb : m < 1073741824) (q : Q (.int (n / m)) h) : dR K rIDiv (.int n) (.int m) h Q := by
  refine r_I (fun _ => .int _) ⟨by omega, by omega⟩ ?_
  rw [Int.fdiv_eq_ediv_of_nonneg _ (by omega)]
  exact q
theorem r_modI {n m : Int} (hm : 0 < m) (q : Q (.int (n % m)) h) : dR K rIMod (.int n) (.int m) h Q := by
  refine r_I (fun _ => .int _) (by omega) ?_
  rw [Int.fmod_eq_emod_of_nonneg _ (by omega)]
  exact q
theorem r_powI {n m : Int} (hm : 0 ≤ m ∧ m ≤ 1000000 ∧ n.natAbs < 2 ^ 64) (q : Q (.int (n ^ m.toNat)) h) : dR K rIPow (.int n) (.int m) h Q := r_I (fun _ => .int _) hm q
theorem r_ltI {n m : Int} (q : Q (.bl (decide (n < m))) h) : dR K (rLtX K) (.int n) (.int m) h Q := fun G F H vx vy rh rx ry QV k => Or.inl (r_I0 (fun _ => .bl _) q G F H vx vy rh rx ry QV k)
theorem r_ltT {ns ms : List Int} (q : Q (.bl (HT.lexLt ns ms)) h) : dR K (rLtX K) (.tup (ns.map .int)) (.tup (ms.map .int)) h Q := fun G F H vx vy rh rx ry QV k => by
  cases rx with
  | tup s1 r1 =>
    cases ry with
    | tup s2 r2 =>
      have e1 := r1.ints
      have e2 := r2.ints
      subst e1; subst e2
      exact Or.inr ⟨_, _, ns, ms, rfl, rfl, Evl.ex_t rh.ex s1, Evl.ex_t rh.ex s2, k _ _ (.of rh (.bl _) q)⟩
theorem r_leI {n m : Int} (q : Q (.bl (decide (n ≤ m))) h) : dR K rILe (.int n) (.int m) h Q := r_I0 (fun _ => .bl _) q
theorem r_gtI {n m : Int} (q : Q (.bl (decide (m < n))) h) : dR K rIGt (.int n) (.int m) h Q := r_I0 (fun _ => .bl _) q
theorem r_geI {n m : Int} (q : Q (.bl (decide (m ≤ n))) h) : dR K rIGe (.int n) (.int m) h Q := r_I0 (fun _ => .bl _) q
theorem r_eqII {n m : Int} (q : Q (.bl (decide (n = m))) h) : dR K (rEqX K) (.int n) (.int m) h Q := fun G F H vx vy rh rx ry QV k => Or.inl (r_eqI q G F H vx vy rh rx ry QV k)
theorem r_neII {n m : Int} (q : Q (.bl (!decide (n = m))) h) : dR K (rNeX K) (.int n) (.int m) h Q := fun G F H vx vy rh rx ry QV k => Or.inl (r_neI q G F H vx vy rh rx ry QV k)
theorem r_eqSS {n m : Str} (q : Q (.bl (decide (n = m))) h) : dR K (rEqX K) (.str n) (.str m) h Q := fun G F H vx vy rh rx ry QV k => Or.inl (r_eqS q G F H vx vy rh rx ry QV k)
theorem r_neSS {n m : Str} (q : Q (.bl (!decide (n = m))) h) : dR K (rNeX K) (.str n) (.str m) h Q := fun G F H vx vy rh rx ry QV k => Or.inl (r_neS q G F H vx vy rh rx ry QV k)

mutual
inductive DPy (h : DH) : D → PyData → Prop
  | non : DPy h .non .none
  | bl (b : Bool) : DPy h (.bl b) (.bool b)
  | int (i : Int) : DPy h (.int i) (.int i)
  | str (x : Str) : DPy h (.str x) (.str x)
  | tup {ds : List D} {ps : List PyData} (r : DPys h ds ps) : DPy h (.tup ds) (.tuple ps)
  | lst {x : D} {ds : List D} {ps : List PyData} (l : IsL h x ds) (r : DPys h ds ps) : DPy h x (.list ps)
inductive DPys (h : DH) : List D → List PyData → Prop
  | nil : DPys h [] []
  | cons {d : D} {ds : List D} {p : PyData} {ps : List PyData} (a : DPy h d p) (r : DPys h ds ps) : DPys h (d :: ds) (p :: ps)
end
mutual
theorem DPy.of (rh : RH K G F h H) : ∀ {d : D} {p : PyData} {v : V}, DPy h d p → Rp K G d v → Dp K H v p
  | _, _, _, .non, r => by cases r; exact .non
  | _, _, _, .bl b, r => by cases r; exact .bl b
  | _, _, _, .int b, r => by cases r; exact .int b
  | _, _, _, .str b, r => by cases r; exact .str b
  | _, _, _, .tup q, r => by
    obtain ⟨a, vs, rfl, s1, r1⟩ := tup_of rh r
    exact .tup s1 (DPys.of rh q r1)
  | _, _, _, .lst l q, r => by
    obtain ⟨a, vs, rfl, s1, r1⟩ := l.of rh r
    exact .lst s1 (DPys.of rh q r1)
theorem DPys.of (rh : RH K G F h H) : ∀ {d : List D} {p : List PyData} {v : List V}, DPys h d p → Rps K G d v → DpAll K H v p
  | _, _, _, .nil, r => by cases r; exact .nil
  | _, _, _, .cons a q, r => by
    cases r with
    | cons r0 r1 => exact .cons (DPy.of rh a r0) (DPys.of rh q r1)
end
theorem r_eqD {p q : PyData} (hx : DPy h x p) (hy : DPy h y q) (s1 : SeqAt.shaped p = true) (s2 : SeqAt.shaped q = true) (k0 : Q (.bl (PyData.eqv p q)) h) : dR K (rEqX K) x y h Q := fun G F H vx vy rh rx ry QV k =>
  Or.inr ⟨p, q, hx.of rh rx, hy.of rh ry, s1, s2, k _ _ (.of rh (.bl _) k0)⟩
theorem r_neD {p q : PyData} (hx : DPy h x p) (hy : DPy h y q) (s1 : SeqAt.shaped p = true) (s2 : SeqAt.shaped q = true) (k0 : Q (.bl (!PyData.eqv p q)) h) : dR K (rNeX K) x y h Q := fun G F H vx vy rh rx ry QV k =>
  Or.inr ⟨p, q, hx.of rh rx, hy.of rh ry, s1, s2, k _ _ (.of rh (.bl _) k0)⟩
/-! ### calls -/
theorem c_lenX (l : IsS h x ds) (q : Q (.int (ds.length : Int)) h) : dC K (rLenX K) [x] h Q := fun G F H vs rh rs QV k => Or.inl (c_len l q G F H vs rh rs QV k)
theorem c_lenStr {n : Str} (hl : n.length ≤ 100000) (q : Q (.int (n.length : Int)) h) : dC K (rLenX K) [.str n] h Q := fun G F H vs rh rs QV k => by
  cases rs with
  | cons r0 r1 =>
    cases r1; cases r0
    exact Or.inr (Or.inl ⟨n, rfl, Evl.sz_of hl, k _ _ (.of rh (.int _) q)⟩)
theorem c_absX {n : Int} (q : Q (.int (if n < 0 then -n else n)) h) : dC K rAbs1 [.int n] h Q := c_abs q
theorem c_maxX {n m : Int} (q : Q (.int (if m > n then m else n)) h) : dC K rMax2' [.int n, .int m] h Q := c_max2 q
theorem c_minX {n m : Int} (q : Q (.int (if m < n then m else n)) h) : dC K rMin2' [.int n, .int m] h Q := c_min2 q
/-- the type's name -/
inductive TyN (h : DH) : D → String → Prop
  | non : TyN h .non "NoneType"
  | bl (b : Bool) : TyN h (.bl b) "bool"
  | int (i : Int) : TyN h (.int i) "int"
  | str (x : Str) : TyN h (.str x) "str"
  | tup (ds : List D) : TyN h (.tup ds) "tuple"
  | lst {x : D} {ds : List D} (l : IsL h x ds) : TyN h x "list"
theorem tyx_l {v : V} {vs : List V} {a : Addr} (hs : SqL K H a vs) : TyX K H (.ref a) (.type "list") := by
  rcases hs with (h | ⟨o, h⟩) | ⟨o, its, n, h1, h2, _⟩
  · exact .base (.lst h)
  · exact .base (.frz h)
  · exact .kList h1 h2
theorem tyx_t {v : V} {vs : List V} {a : Addr} (hs : SqT K H a vs) : TyX K H (.ref a) (.type "tuple") := by
  rcases hs with (h | ⟨o, h⟩) | ⟨o, its, n, h1, h2, _⟩
  · exact .base (.tup h)
  · exact .fTuple h
  · exact .kTuple h1 h2
theorem TyN.of {n : String} (ty : TyN h x n) (rh : RH K G F h H) {v : V} (r : Rp K G x v) : TyX K H v (.type n) := by
  cases ty with
  | non => cases r; exact .base .non
  | bl => cases r; exact .base (.bl _)
  | int => cases r; exact .base (.int _)
  | str => cases r; exact .base (.str _)
  | tup =>
    obtain ⟨a, vs, rfl, s1, r1⟩ := tup_of rh r
    exact tyx_t (v := .non) s1
  | lst l =>
    obtain ⟨a, vs, rfl, s1, r1⟩ := l.of rh r
    exact tyx_l (v := .non) s1
theorem c_isi {n m : String} {b : Bool} (ty : TyN h x n) (e : kitB n m = some b) (q : Q (.bl b) h) : dC K (rIsiX K) [x, .ty m] h Q := fun G F H vs rh rs QV k => by
  cases rs with
  | cons r0 r1 =>
    cases r1 with
    | cons r1 r2 =>
      cases r2; cases r1
      exact Or.inl ⟨_, .ty m, _, .type m, b, rfl, .ty m, ty.of rh r0, kit_ty e, k _ _ (.of rh (.bl _) q)⟩
/-- isinstance(x, (A, B)) -/
theorem e_isi2 {m1 m2 : String} (ha : dE K ta δ h (fun x h1 => ∃ n b1 b2, TyN h1 x n ∧ kitB n m1 = some b1 ∧ kitB n m2 = some b2 ∧ Q (.bl (b1 || b2)) h1)) :
    dE K (tCB (rIsiX K) (tCons ta (tCons (tTup (tCons (tC (.ty m1)) (tCons (tC (.ty m2)) tNil))) tNil))) δ h Q := fun G F σ H rh sl QV k => by
  refine ha G F σ H rh sl _ ?_
  rintro v H1 ⟨G1, d, h1, e1, rh1, rv, n, b1, b2, ty, k1, k2, q⟩
  refine ⟨by show 2 ≤ sizeLine; rw [sizeLine_eq]; decide, fun p hp => ?_⟩
  obtain ⟨ex, rh2, gp, _⟩ := rh1.grow hp (.tup [.ty m1, .ty m2])
  refine Or.inr ⟨v, p, [.ty m1, .ty m2], .type n, [.type m1, .type m2], b1 || b2, rfl, upd_same, .cons (.ty _) (.cons (.ty _) .nil), ty.of rh2 (rv.mono ex), ?_, k _ _ ⟨_, _, h1, e1.trans ex, rh2, .bl _, q⟩⟩
  refine kitAny_cons (b := b1) (r := b1 || b2) k1 (fun e => ?_) (fun e => by rw [e]; rfl)
  refine kitAny_cons (b := b2) (r := b1 || b2) k2 (fun e2 => ?_) (fun e2 => by rw [e2, Bool.or_true])
  rw [e, e2]; rfl
/-! ### truth -/
inductive Tru (h : DH) : D → Bool → Prop
  | non : Tru h .non false
  | bl (b : Bool) : Tru h (.bl b) b
  | int (i : Int) : Tru h (.int i) (i != 0)
  | str {x : Str} (e : x.length ≤ 100000) : Tru h (.str x) ((x.length : Int) != 0)
  | lst {x : D} {ds : List D} (l : IsL h x ds) : Tru h x (!ds.isEmpty)
  | tup (ds : List D) : Tru h (.tup ds) (!ds.isEmpty)
theorem rps_empty {vs : List V} (r : Rps K G ds vs) : (!ds.isEmpty) = !vs.isEmpty := by cases r <;> rfl
theorem Tru.of {b : Bool} (t : Tru h x b) (rh : RH K G F h H) {v : V} (r : Rp K G x v) : TruV K v H b := by
  cases t with
  | non => cases r; rfl
  | bl => cases r; rfl
  | int => cases r; rfl
  | str e => cases r; exact ⟨Evl.sz_of e, rfl⟩
  | tup =>
    obtain ⟨a, vs, rfl, s1, r1⟩ := tup_of rh r
    exact Or.inr (Or.inl ⟨vs, s1, rps_empty r1⟩)
  | lst l =>
    obtain ⟨a, vs, rfl, s1, r1⟩ := l.of rh r
    exact Or.inl ⟨vs, s1, rps_empty r1⟩
theorem t_tru {Q : Bool → DH → Prop} (ha : dE K ta δ h (fun x h1 => ∃ b, Tru h1 x b ∧ Q b h1)) : dT K (tTru K ta) δ h Q := fun G F σ H rh sl QV k => by
  refine ha G F σ H rh sl _ ?_
  rintro v H1 ⟨G1, d, h1, e1, rh1, rv, b, tr, q⟩
  exact ⟨b, tr.of rh1 rv, k _ _ ⟨G1, h1, e1, rh1, q⟩⟩
theorem e_orT (ha : dE K ta δ h (fun x h1 => ∃ b, Tru h1 x b ∧ (b = false → dE K tb δ h1 Q) ∧ (b = true → Q x h1))) : dE K (tOrT K ta tb) δ h Q := fun G F σ H rh sl QV k => by
  refine ha G F σ H rh sl _ ?_
  rintro v H1 ⟨G1, d, h1, e1, rh1, rv, b, tr, q1, q2⟩
  refine ⟨b, tr.of rh1 rv, ?_⟩
  cases b with
  | false => rw [if_neg Bool.false_ne_true]; exact q1 rfl G1 F σ H1 rh1 (sl_mono e1 sl) QV fun z H3 l => k z H3 (l.up e1)
  | true => rw [if_pos rfl]; exact k _ _ (LV.up e1 (.of rh1 rv (q2 rfl)))
theorem e_andT (ha : dE K ta δ h (fun x h1 => ∃ b, Tru h1 x b ∧ (b = true → dE K tb δ h1 Q) ∧ (b = false → Q x h1))) : dE K (tAndT K ta tb) δ h Q := fun G F σ H rh sl QV k => by
  refine ha G F σ H rh sl _ ?_
  rintro v H1 ⟨G1, d, h1, e1, rh1, rv, b, tr, q1, q2⟩
  refine ⟨b, tr.of rh1 rv, ?_⟩
  cases b with
  | true => rw [if_pos rfl]; exact q1 rfl G1 F σ H1 rh1 (sl_mono e1 sl) QV fun z H3 l => k z H3 (l.up e1)
  | false => rw [if_neg Bool.false_ne_true]; exact k _ _ (LV.up e1 (.of rh1 rv (q2 rfl)))
theorem e_notT (ha : dE K ta δ h (fun x h1 => ∃ b, Tru h1 x b ∧ Q (.bl (!b)) h1)) : dE K (tNotT K ta) δ h Q := fun G F σ H rh sl QV k => by
  refine ha G F σ H rh sl _ ?_
  rintro v H1 ⟨G1, d, h1, e1, rh1, rv, b, tr, q1⟩
  exact ⟨b, tr.of rh1 rv, k _ _ (LV.up e1 (.of rh1 (.bl _) q1))⟩
end
end DL
set_option maxHeartbeats 2000000
namespace DL
open PySem L2 RZ
open Evl (Ex)
theorem nt_t (e : (!true) = true) : False := Bool.noConfusion e
theorem nf_f (e : (!false) = false) : False := Bool.noConfusion e
def rIntX : List V → Hp → VK → Prop := r_int1
theorem call_intX {X : Cx} : CallR X (.type "int") rIntX := call_int1
def rSlX (K : PySem.W.Frag) : V → Option Int → Option Int → Hp → VK → Prop := fun x lo hi H Q => rSlL K x lo hi H Q ∨ rSlT K x lo hi H Q
theorem sl_X {X : Cx} : SlR X (rSlX X.K) := sl_list.or sl_tup
/-- what isinstance says, by the types' names -/
theorem kt_None_int : kitB "NoneType" "int" = some false := by decide +kernel
theorem kt_None_bool : kitB "NoneType" "bool" = some false := by decide +kernel
theorem kt_None_list : kitB "NoneType" "list" = some false := by decide +kernel
theorem kt_None_tuple : kitB "NoneType" "tuple" = some false := by decide +kernel
theorem kt_None_str : kitB "NoneType" "str" = some false := by decide +kernel
theorem kt_bool_int : kitB "bool" "int" = some true := by decide +kernel
theorem kt_bool_bool : kitB "bool" "bool" = some true := by decide +kernel
theorem kt_bool_list : kitB "bool" "list" = some false := by decide +kernel
theorem kt_bool_tuple : kitB "bool" "tuple" = some false := by decide +kernel
theorem kt_bool_str : kitB "bool" "str" = some false := by decide +kernel
theorem kt_int_int : kitB "int" "int" = some true := by decide +kernel
theorem kt_int_bool : kitB "int" "bool" = some false := by decide +kernel
theorem kt_int_list : kitB "int" "list" = some false := by decide +kernel
theorem kt_int_tuple : kitB "int" "tuple" = some false := by decide +kernel
theorem kt_int_str : kitB "int" "str" = some false := by decide +kernel
theorem kt_str_int : kitB "str" "int" = some false := by decide +kernel
theorem kt_str_bool : kitB "str" "bool" = some false := by decide +kernel
theorem kt_str_list : kitB "str" "list" = some false := by decide +kernel
theorem kt_str_tuple : kitB "str" "tuple" = some false := by decide +kernel
theorem kt_str_str : kitB "str" "str" = some true := by decide +kernel
theorem kt_list_int : kitB "list" "int" = some false := by decide +kernel
theorem kt_list_bool : kitB "list" "bool" = some false := by decide +kernel
theorem kt_list_list : kitB "list" "list" = some true := by decide +kernel
theorem kt_list_tuple : kitB "list" "tuple" = some false := by decide +kernel
theorem kt_list_str : kitB "list" "str" = some false := by decide +kernel
theorem kt_tuple_int : kitB "tuple" "int" = some false := by decide +kernel
theorem kt_tuple_bool : kitB "tuple" "bool" = some false := by decide +kernel
theorem kt_tuple_list : kitB "tuple" "list" = some false := by decide +kernel
theorem kt_tuple_tuple : kitB "tuple" "tuple" = some true := by decide +kernel
theorem kt_tuple_str : kitB "tuple" "str" = some false := by decide +kernel
section
variable {K : PySem.W.Frag} {G G' F H H' : Hp} {h h' : DH} {Q : DK} {δ : DSt} {d x y z : D} {ds xs : List D} {ta tb tc te tl : TE} {t u c : TT} {ts tu tw : TS} {a p : Addr} {i : Nat} {r r' : R2} {wi : TI} {g : TG} {tt : TT}
theorem c_intX {b : Bool} (q : Q (.int (if b then 1 else 0)) h) : dC K rIntX [.bl b] h Q := c_intB q
/-! ### slices -/
def dO (K : PySem.W.Frag) (to : TO) (δ : DSt) (h : DH) (Q : Option Int → DH → Prop) : Prop := ∀ G F σ H, RH K G F h H → Sl K G δ σ → ∀ QV : Option Int → Hp → Prop, (∀ o H', (∃ G' h', Ex G G' ∧ RH K G' F h' H' ∧ Q o h') → QV o H') → to σ H QV
theorem o_none {Q : Option Int → DH → Prop} (q : Q none h) : dO K tNoPart δ h Q := fun G F σ H rh sl QV k => k _ _ ⟨G, h, Ex.refl G, rh, q⟩
theorem o_some {Q : Option Int → DH → Prop} (hl : dE K te δ h (fun d h1 => ∃ n, d = .int n ∧ Q (some n) h1)) : dO K (tPart te) δ h Q := fun G F σ H rh sl QV k => by
  refine hl G F σ H rh sl _ ?_
  rintro v H1 ⟨G1, d, h1, e1, rh1, rv, n, rfl, q⟩
  cases rv
  exact ⟨n, rfl, k _ _ ⟨G1, h1, e1, rh1, q⟩⟩
def cutD (ds : List D) (lo hi : Option Int) : List D := (ds.drop (HT.sIx ds.length 0 lo)).take (HT.sIx ds.length ds.length hi - HT.sIx ds.length 0 lo)
theorem Rps.cut {vs : List V} (r : Rps K G ds vs) (lo hi : Option Int) : Rps K G (cutD ds lo hi) (cutV vs lo hi) := by
  unfold cutD cutV
  rw [← r.length]
  exact (r.drop _).take _
/-- x[lo:hi] of a list (frozen, the new one too), of a tuple (not the whole) -/
theorem e_slL {tl th : TO} (ha : dE K ta δ h (fun x h1 => dO K tl δ h1 (fun lo h2 => dO K th δ h2 (fun hi h3 => ∃ ds, IsL h3 x ds ∧ Q (.lst (cutD ds lo hi)) h3)))) : dE K (L2.tSl (rSlX K) ta tl th) δ h Q := fun G F σ H rh sl QV k => by
  refine ha G F σ H rh sl _ ?_
  rintro v H1 ⟨G1, d, h1, e1, rh1, rv, q⟩
  refine q G1 F σ H1 rh1 (sl_mono e1 sl) _ ?_
  rintro lo H2 ⟨G2, h2, e2, rh2, q2⟩
  refine q2 G2 F σ H2 rh2 (sl_mono (e1.trans e2) sl) _ ?_
  rintro hi H3 ⟨G3, h3, e3, rh3, ds, l, q3⟩
  obtain ⟨p, vs, rfl, s1, r1⟩ := l.of rh3 (rv.mono (e2.trans e3))
  refine Or.inl ⟨p, vs, rfl, s1, fun p' hp => ?_⟩
  obtain ⟨ex, rh4, gp, _⟩ := rh3.grow hp (.lst (cutV vs lo hi))
  exact k _ _ ⟨_, _, h3, (e1.trans (e2.trans e3)).trans ex, rh4, .lst gp ((r1.cut lo hi).mono ex), q3⟩
theorem e_slT {tl th : TO} (ha : dE K ta δ h (fun x h1 => dO K tl δ h1 (fun lo h2 => dO K th δ h2 (fun hi h3 => ∃ ds, x = .tup ds ∧ ¬ (HT.sIx ds.length 0 lo = 0 ∧ HT.sIx ds.length ds.length hi = ds.length) ∧ Q (.tup (cutD ds lo hi)) h3)))) : dE K (L2.tSl (rSlX K) ta tl th) δ h Q := fun G F σ H rh sl QV k => by
  refine ha G F σ H rh sl _ ?_
  rintro v H1 ⟨G1, d, h1, e1, rh1, rv, q⟩
  refine q G1 F σ H1 rh1 (sl_mono e1 sl) _ ?_
  rintro lo H2 ⟨G2, h2, e2, rh2, q2⟩
  refine q2 G2 F σ H2 rh2 (sl_mono (e1.trans e2) sl) _ ?_
  rintro hi H3 ⟨G3, h3, e3, rh3, ds, rfl, hw, q3⟩
  cases (rv.mono (e2.trans e3)) with
  | tup s1 r1 =>
    refine Or.inr ⟨_, _, rfl, Evl.ex_t rh3.ex s1, by rw [← r1.length]; exact hw, fun p' hp => ?_⟩
    obtain ⟨ex, rh4, gp, _⟩ := rh3.grow hp (.tup (cutV _ lo hi))
    exact k _ _ ⟨_, _, h3, (e1.trans (e2.trans e3)).trans ex, rh4, .tup (Or.inl (Or.inl gp)) ((r1.cut lo hi).mono ex), q3⟩
theorem m_clear {l : Addr} (e : h l = some (.lst ds)) (q : Q .non (dupd h l (.lst []))) : dM K rClear (.ref l) [] h Q := fun G F H vx vs rh rx rs QV k => by
  cases rx
  cases rs
  obtain ⟨_, u, e1, e2⟩ := rh.own _ _ e
  obtain ⟨ws, rfl, rw'⟩ := rpo_lst e2
  exact ⟨l, ws, rfl, rfl, e1, k _ _ ⟨G, .non, _, Ex.refl G, rh.write e (o := .lst []) (u := .lst []) .nil, .non, q⟩⟩
end
/-! ### data as tuples -/
mutual
def normP : PyData → PyData
  | .none => .none
  | .bool b => .bool b
  | .int i => .int i
  | .str s => .str s
  | .list xs => .tuple (normPs xs)
  | .tuple xs => .tuple (normPs xs)
  | .dict _ => .none
def normPs : List PyData → List PyData
  | [] => []
  | p :: ps => normP p :: normPs ps
end
mutual
def tupP : PyData → D
  | .none => .non
  | .bool b => .bl b
  | .int i => .int i
  | .str s => .str s
  | .list xs => .tup (tupPs xs)
  | .tuple xs => .tup (tupPs xs)
  | .dict _ => .non
def tupPs : List PyData → List D
  | [] => []
  | p :: ps => tupP p :: tupPs ps
end
mutual
theorem dpy_norm (h : DH) : ∀ p : PyData, DPy h (tupP p) (normP p)
  | .none => .non
  | .bool b => .bl b
  | .int i => .int i
  | .str s => .str s
  | .list xs => .tup (dpys_norm h xs)
  | .tuple xs => .tup (dpys_norm h xs)
  | .dict _ => .non
theorem dpys_norm (h : DH) : ∀ ps : List PyData, DPys h (tupPs ps) (normPs ps)
  | [] => .nil
  | p :: ps => .cons (dpy_norm h p) (dpys_norm h ps)
end
end DL
set_option maxHeartbeats 2000000
/-! DL: the defs of the text, the end. -/
namespace DL
open PySem PySem.Spec PyProof.Rows L2
section
variable {P : Program} {w : World} {K : PySem.W.Frag} {mg : Str → Option Value} {base : Heap} {x : Str} {st : Stmt} {f : Addr} {fd : FuncData} {N ps : List Str} {k : Nat} {sp : DSp} {t : TS}
/-- a def keeps its promise -/
theorem calD (F : FunD K x x (defArgs st) (defBody st) (defScope st) [] [] f fd) (hm : mg x = some (.ref f)) (b : Binds K fd ps []) (S : FnScope N ps (defScope st)) (len : ∀ ds h QD QX, sp ds h QD QX → ds.length = ps.length)
    (tm : ∀ (cdv : Value) (A : Around) (outer : List Env) (s : Shared) (H : Hp) (E : XK), Room k (A.deeper (envOfC x (defScope st) s.heap.objs.size f cdv)) → PSs (cxOf CX0 P w K mg base N x (defScope st) f cdv A outer s H E).nox (defBody st) t)
    (hp : ∀ ds h QD QX, sp ds h QD QX → dB K t N ds h QD) : C8.Cal P w K mg base (k + 1) x (upSp K sp) [] :=
  ⟨f, fd, ps, [], F.ok S (len_up len) fun cdv A outer s H vs Q E hr h => ⟨t, PSs.nox (tm cdv A outer s H E hr), body_ok hp vs H Q E h⟩, hm, F.kp, b, .nil⟩
theorem okD (F : FunD K x x (defArgs st) (defBody st) (defScope st) [] [] f fd) (S : FnScope N ps (defScope st)) (len : ∀ ds h QD QX, sp ds h QD QX → ds.length = ps.length)
    (tm : ∀ (cdv : Value) (A : Around) (outer : List Env) (s : Shared) (H : Hp) (E : XK), Room k (A.deeper (envOfC x (defScope st) s.heap.objs.size f cdv)) → PSs (cxOf CX0 P w K mg base N x (defScope st) f cdv A outer s H E).nox (defBody st) t)
    (hp : ∀ ds h QD QX, sp ds h QD QX → dB K t N ds h QD) : FnOk P w K mg base CX0 (k + 1) f fd ps (upSp K sp) :=
  F.ok S (len_up len) fun cdv A outer s H vs Q E hr h => ⟨t, PSs.nox (tm cdv A outer s H E hr), body_ok hp vs H Q E h⟩
def spNever : DSp := fun _ _ _ _ => False
theorem calNever (hm : mg x = some (.ref f)) (hk : PySem.W.keepIn K (.ref f) = true) (b : Binds K fd ps []) : C8.Cal P w K mg base 0 x (upSp K spNever) [] :=
  ⟨f, fd, ps, [], ⟨fun vs H Q E h => by obtain ⟨_, _, _, _, _, _, _, _, z, _⟩ := h; exact z.elim, fun A outer s H args us vs Q E hr he hb hv h => by obtain ⟨_, _, _, _, _, _, _, _, z, _⟩ := h; exact z.elim⟩, hm, hk, b, .nil⟩
/-- a whole number of the top -/
theorem intD {X : K.In base} {mg : Str → Option Value} {h : Heap} (Xh : K.In h) (G : h.Ns mainGlobals mg) {x : Str} {i : Int} (c : (He.Fa.int x i).ok K = true) : ∃ u, mg x = some u ∧ RelV (V.int i) u := by
  obtain ⟨t, e⟩ := He.int_ok Xh G c
  exact ⟨_, e, t, rfl⟩
end
/-- the script -/
theorem script_up {K : PySem.W.Frag} {sp : DSp} {H : Hp} {a : Addr} {ns : List Int} (hS : SqL K H a (ns.map V.int)) (h : ∀ QD : DK, (∀ d h', d = .bl true → QD d h') → sp [.rd (ns.map D.int)] (fun _ => none) QD X0) :
    upSp K sp [.ref a] H (fun v _ => v = .bl true) fun _ _ _ => False := by
  refine ⟨H, fun _ => none, [.rd (ns.map D.int)], fun _ => none, fun d _ => d = .bl true, X0, ⟨Evl.Ex.refl H, fun _ _ e => (nomatch (show (none : Option HO) = some _ from e)), fun _ _ e => (nomatch (show (none : Option DO) = some _ from e))⟩, .cons (.rd hS (Rps.of_ints ns)) .nil, h _ fun _ _ e => e, ?_, ?_⟩
  · rintro v H' ⟨G', d, h', e, rh, rv, rfl⟩
    cases rv
    rfl
  · rintro c d H' ⟨C, o, G', h', _, _, _, _, z⟩
    exact z.elim
end DL
set_option maxHeartbeats 4000000
/-! the walk: printed by gen.py -/
namespace Lw
open PySem PySem.Spec PyProof.Rows L2 DL
def top (i : Nat) : Stmt := PySem.Challenge.pw_hourhaul_k57_calendars_made.main.body.getD i (.Pass ⟨0, 0, 0, 0⟩)
structure Txt (mg : Str → Option Value) : Prop where
  f_abs : mg "abs" = none
  f_all : mg "all" = none
  f_bool : mg "bool" = none
  f_int : mg "int" = none
  f_isinstance : mg "isinstance" = none
  f_len : mg "len" = none
  f_list : mg "list" = none
  f_max : mg "max" = none
  f_range : mg "range" = none
  f_tuple : mg "tuple" = none
  f_zip : mg "zip" = none
  c_GREATEST_HOURS : ∃ u, mg "GREATEST_HOURS" = some u ∧ RelV (V.int 1000000) u
  c_MOST_WAYS : ∃ u, mg "MOST_WAYS" = some u ∧ RelV (V.int 12) u
  c_GREATEST_ROOM : ∃ u, mg "GREATEST_ROOM" = some u ∧ RelV (V.int 1000000000) u
  c_MOST_PLACES : ∃ u, mg "MOST_PLACES" = some u ∧ RelV (V.int 6) u
  c_LEAST_PLACES : ∃ u, mg "LEAST_PLACES" = some u ∧ RelV (V.int 2) u
  c_MOST_LAST : ∃ u, mg "MOST_LAST" = some u ∧ RelV (V.int 12) u
section
variable {P : Program} {w : World} {K : PySem.W.Frag} {mg : Str → Option Value} {base : Heap}
/-! ### is_number -/
abbrev st_is_number : Stmt := top 9
abbrev N_is_number : List Str := ["thing"]
theorem sc_is_number : FnScope N_is_number ["thing"] (defScope st_is_number) := ⟨rfl, rfl, rfl, by decide +kernel, rfl, by decide +kernel, by decide +kernel⟩
abbrev t_is_number (K : PySem.W.Frag)  : TS :=
    (tRet (tAndT K (tCB (rIsiX K) (tCons (tVar 0) (tCons (tC (.ty "int")) tNil))) (tNotT K (tCB (rIsiX K) (tCons (tVar 0) (tCons (tC (.ty "bool")) tNil))))))
theorem tm_is_number {k : Nat} {f : Addr} {cdv : Value} {A : Around} {outer : List Env} {s : Shared} {H : Hp} {E : XK}  (T : Txt mg)  (hr : Room k (A.deeper (envOfC "is_number" (defScope st_is_number) s.heap.objs.size f cdv))) :
    PSs (cxOf CX0 P w K mg base N_is_number "is_number" (defScope st_is_number) f cdv A outer s H E).nox (defBody st_is_number) (t_is_number K ) := by
  have nd := sc_is_number.nd
  exact (pss_one (ps_ret (pe_andT (pe_callB call_isiX (by rfl) T.f_isinstance (by decide +kernel) (pa_cons (pv 0) (pa_cons (pe_bltn rfl T.f_int (by decide +kernel) rfl) pa_nil))) (pe_one (pe_notT (pe_callB call_isiX (by rfl) T.f_isinstance (by decide +kernel) (pa_cons (pv 0) (pa_cons (pe_bltn rfl T.f_bool (by decide +kernel) rfl) pa_nil))))))))
/-! ### is_within -/
abbrev st_is_within : Stmt := top 10
abbrev N_is_within : List Str := ["thing", "low", "high"]
theorem sc_is_within : FnScope N_is_within ["thing", "low", "high"] (defScope st_is_within) := ⟨rfl, rfl, rfl, by decide +kernel, rfl, by decide +kernel, by decide +kernel⟩
abbrev t_is_within (K : PySem.W.Frag) (s_is_number : DSp) : TS :=
    (tRet (tAndT K (tCall (upSp K s_is_number) [] E0 (tCons (tVar 0) tNil)) (tChain rILe rILe (tVar 1) (tVar 0) (tVar 2))))
theorem tm_is_within {k : Nat} {f : Addr} {cdv : Value} {A : Around} {outer : List Env} {s : Shared} {H : Hp} {E : XK} {s_is_number : DSp} (T : Txt mg) {k_is_number : Nat} (c_is_number : C8.Cal P w K mg base k_is_number "is_number" (upSp K s_is_number) []) (hk_is_number : k_is_number ≤ k) (hr : Room k (A.deeper (envOfC "is_within" (defScope st_is_within) s.heap.objs.size f cdv))) :
    PSs (cxOf CX0 P w K mg base N_is_within "is_within" (defScope st_is_within) f cdv A outer s H E).nox (defBody st_is_within) (t_is_within K s_is_number) := by
  have nd := sc_is_within.nd
  exact (pss_one (ps_ret (pe_andT (C8.pe_c c_is_number hr hk_is_number rfl (pa_cons (pv 0) pa_nil)) (pe_one (pe_chain op_leX op_leX (pv 1) (pv 0) (pv 2))))))
/-! ### is_listed -/
abbrev st_is_listed : Stmt := top 13
abbrev N_is_listed : List Str := ["thing", "length"]
theorem sc_is_listed : FnScope N_is_listed ["thing", "length"] (defScope st_is_listed) := ⟨rfl, rfl, rfl, by decide +kernel, rfl, by decide +kernel, by decide +kernel⟩
abbrev t_is_listed (K : PySem.W.Frag)  : TS :=
    (tRet (tAndT K (tCB (rIsiX K) (tCons (tVar 0) (tCons (tTup (tCons (tC (.ty "list")) (tCons (tC (.ty "tuple")) tNil))) tNil))) (tOp (rEqX K) (tCB (rLenX K) (tCons (tVar 0) tNil)) (tVar 1))))
theorem tm_is_listed {k : Nat} {f : Addr} {cdv : Value} {A : Around} {outer : List Env} {s : Shared} {H : Hp} {E : XK}  (T : Txt mg)  (hr : Room k (A.deeper (envOfC "is_listed" (defScope st_is_listed) s.heap.objs.size f cdv))) :
    PSs (cxOf CX0 P w K mg base N_is_listed "is_listed" (defScope st_is_listed) f cdv A outer s H E).nox (defBody st_is_listed) (t_is_listed K ) := by
  have nd := sc_is_listed.nd
  exact (pss_one (ps_ret (pe_andT (pe_callB call_isiX (by rfl) T.f_isinstance (by decide +kernel) (pa_cons (pv 0) (pa_cons (pe_tup (pa_cons (pe_bltn rfl T.f_list (by decide +kernel) rfl) (pa_cons (pe_bltn rfl T.f_tuple (by decide +kernel) rfl) pa_nil))) pa_nil))) (pe_one (pe_cmpR (op_eqX (hu64 hr)) (pe_callB call_lenX (by rfl) T.f_len (by decide +kernel) (pa_cons (pv 0) pa_nil)) (pv 1) (nomark _))))))
/-! ### is_road -/
abbrev st_is_road : Stmt := top 14
abbrev N_is_road : List Str := ["thing", "many"]
theorem sc_is_road : FnScope N_is_road ["thing", "many"] (defScope st_is_road) := ⟨rfl, rfl, rfl, by decide +kernel, rfl, by decide +kernel, by decide +kernel⟩
abbrev t_is_road_1 (K : PySem.W.Frag) (s_is_listed : DSp) (s_is_within : DSp) : TS :=
    (tRet (tAndT K (tOp (rNeX K) (tOp (rIx K) (tVar 0) (tC (.int 0))) (tOp (rIx K) (tVar 0) (tC (.int 1)))) (tCall (upSp K s_is_within) [] E0 (tCons (tOp (rIx K) (tVar 0) (tC (.int 2))) (tCons (tC (.int 1)) (tCons (tC (.int 1000000)) tNil))))))
abbrev t_is_road (K : PySem.W.Frag) (s_is_listed : DSp) (s_is_within : DSp) : TS :=
    (tSeq (tIfS (tOr (tNot (tTru K (tCall (upSp K s_is_listed) [] E0 (tCons (tVar 0) (tCons (tC (.int 3)) tNil))))) (tOr (tNot (tTru K (tCall (upSp K s_is_within) [] E0 (tCons (tOp (rIx K) (tVar 0) (tC (.int 0))) (tCons (tC (.int 0)) (tCons (tOp rISub (tVar 1) (tC (.int 1))) tNil)))))) (tNot (tTru K (tCall (upSp K s_is_within) [] E0 (tCons (tOp (rIx K) (tVar 0) (tC (.int 1))) (tCons (tC (.int 0)) (tCons (tOp rISub (tVar 1) (tC (.int 1))) tNil)))))))) (tRet (tC (.bl false))) tNext) (t_is_road_1 K s_is_listed s_is_within))
theorem tm_is_road {k : Nat} {f : Addr} {cdv : Value} {A : Around} {outer : List Env} {s : Shared} {H : Hp} {E : XK} {s_is_listed : DSp} {s_is_within : DSp} (T : Txt mg) {k_is_listed : Nat} (c_is_listed : C8.Cal P w K mg base k_is_listed "is_listed" (upSp K s_is_listed) []) (hk_is_listed : k_is_listed ≤ k) {k_is_within : Nat} (c_is_within : C8.Cal P w K mg base k_is_within "is_within" (upSp K s_is_within) []) (hk_is_within : k_is_within ≤ k) (hr : Room k (A.deeper (envOfC "is_road" (defScope st_is_road) s.heap.objs.size f cdv))) :
    PSs (cxOf CX0 P w K mg base N_is_road "is_road" (defScope st_is_road) f cdv A outer s H E).nox (defBody st_is_road) (t_is_road K s_is_listed s_is_within) := by
  have nd := sc_is_road.nd
  exact (pss_cons (ps_if (PW.pt (pw_or (pt_not (pt_truth (C8.pe_c c_is_listed hr hk_is_listed rfl (pa_cons (pv 0) (pa_cons pe_int pa_nil))) (fun _ => rfl))) (pw_or (pt_not (pt_truth (C8.pe_c c_is_within hr hk_is_within rfl (pa_cons (pe_ix ix_seq (pv 0) pe_int (fun _ _ => rfl)) (pa_cons pe_int (pa_cons (pe_op op_subX (pv 1) pe_int) pa_nil)))) (fun _ => rfl))) (pw_or1 (pt_not (pt_truth (C8.pe_c c_is_within hr hk_is_within rfl (pa_cons (pe_ix ix_seq (pv 0) pe_int (fun _ _ => rfl)) (pa_cons pe_int (pa_cons (pe_op op_subX (pv 1) pe_int) pa_nil)))) (fun _ => rfl))))))) (pss_one (ps_ret pe_bl)) pss_nil)
    (pss_one (ps_ret (pe_andT (pe_cmpR (op_neX (hu64 hr)) (pe_ix ix_seq (pv 0) pe_int (fun _ _ => rfl)) (pe_ix ix_seq (pv 0) pe_int (fun _ _ => rfl)) (nomark _)) (pe_one (C8.pe_c c_is_within hr hk_is_within rfl (pa_cons (pe_ix ix_seq (pv 0) pe_int (fun _ _ => rfl)) (pa_cons pe_int (pa_cons (C8.pe_gc rfl T.c_GREATEST_HOURS) pa_nil)))))))))
/-! ### are_roads -/
abbrev st_are_roads : Stmt := top 15
abbrev N_are_roads : List Str := ["thing", "many", "one"]
theorem sc_are_roads : FnScope N_are_roads ["thing", "many"] (defScope st_are_roads) := ⟨rfl, rfl, rfl, by decide +kernel, rfl, by decide +kernel, by decide +kernel⟩
abbrev t_are_roads_1 (K : PySem.W.Frag) (s_is_road : DSp) : TS :=
    (tRet (tCB (rAll K) (tCons (tLc (iSeq K (tVar 0)) (gName 2) tYes (tCall (upSp K s_is_road) [] E0 (tCons (tVar 2) (tCons (tVar 1) tNil))) [2]) tNil)))
abbrev t_are_roads (K : PySem.W.Frag) (s_is_road : DSp) : TS :=
    (tSeq (tIfS (tOr (tNot (tTru K (tCB (rIsiX K) (tCons (tVar 0) (tCons (tTup (tCons (tC (.ty "list")) (tCons (tC (.ty "tuple")) tNil))) tNil))))) (tTest (tOp rIGt (tCB (rLenX K) (tCons (tVar 0) tNil)) (tC (.int 12))))) (tRet (tC (.bl false))) tNext) (t_are_roads_1 K s_is_road))
theorem tm_are_roads {k : Nat} {f : Addr} {cdv : Value} {A : Around} {outer : List Env} {s : Shared} {H : Hp} {E : XK} {s_is_road : DSp} (T : Txt mg) {k_is_road : Nat} (c_is_road : C8.Cal P w K mg base k_is_road "is_road" (upSp K s_is_road) []) (hk_is_road : k_is_road ≤ k) (hr : Room k (A.deeper (envOfC "are_roads" (defScope st_are_roads) s.heap.objs.size f cdv))) :
    PSs (cxOf CX0 P w K mg base N_are_roads "are_roads" (defScope st_are_roads) f cdv A outer s H E).nox (defBody st_are_roads) (t_are_roads K s_is_road) := by
  have nd := sc_are_roads.nd
  exact (pss_cons (ps_if (PW.pt (pw_or (pt_not (pt_truth (pe_callB call_isiX (by rfl) T.f_isinstance (by decide +kernel) (pa_cons (pv 0) (pa_cons (pe_tup (pa_cons (pe_bltn rfl T.f_list (by decide +kernel) rfl) (pa_cons (pe_bltn rfl T.f_tuple (by decide +kernel) rfl) pa_nil))) pa_nil))) (fun _ => rfl))) (pw_or1 (pt_cmpR op_gtX (pe_callB call_lenX (by rfl) T.f_len (by decide +kernel) (pa_cons (pv 0) pa_nil)) (C8.pe_gc rfl T.c_MOST_WAYS) (nomark _))))) (pss_one (ps_ret pe_bl)) pss_nil)
    (pss_one (ps_ret (pe_callB (cr_all rfl) (by rfl) T.f_all (by decide +kernel) (pa_cons (pe_lc (own := [("one", 2)]) (g := (gName 2)) (tt := tYes) rfl nd (pi_seqX (pv 0)) (blkOk_by (by first | decide +kernel | kernel_rfl)) (fun _ _ _ _ _ => (pg_name (i := 2) nd rfl (by first | exact Or.inl rfl | exact Or.inr rfl))) (fun _ _ _ _ _ => pts_nil) (fun _ _ _ _ _ => (C8.pe_c c_is_road hr hk_is_road rfl (pa_cons (pv 2) (pa_cons (pv 1) pa_nil))))) pa_nil)))))
/-! ### are_hourly -/
abbrev st_are_hourly : Stmt := top 16
abbrev N_are_hourly : List Str := ["thing", "length", "room"]
theorem sc_are_hourly : FnScope N_are_hourly ["thing", "length"] (defScope st_are_hourly) := ⟨rfl, rfl, rfl, by decide +kernel, rfl, by decide +kernel, by decide +kernel⟩
abbrev t_are_hourly (K : PySem.W.Frag) (s_is_listed : DSp) (s_is_within : DSp) : TS :=
    (tRet (tAndT K (tCall (upSp K s_is_listed) [] E0 (tCons (tVar 0) (tCons (tVar 1) tNil))) (tCB (rAll K) (tCons (tLc (iSeq K (tVar 0)) (gName 2) tYes (tCall (upSp K s_is_within) [] E0 (tCons (tVar 2) (tCons (tC (.int 0)) (tCons (tC (.int 1000000000)) tNil)))) [2]) tNil))))
theorem tm_are_hourly {k : Nat} {f : Addr} {cdv : Value} {A : Around} {outer : List Env} {s : Shared} {H : Hp} {E : XK} {s_is_listed : DSp} {s_is_within : DSp} (T : Txt mg) {k_is_listed : Nat} (c_is_listed : C8.Cal P w K mg base k_is_listed "is_listed" (upSp K s_is_listed) []) (hk_is_listed : k_is_listed ≤ k) {k_is_within : Nat} (c_is_within : C8.Cal P w K mg base k_is_within "is_within" (upSp K s_is_within) []) (hk_is_within : k_is_within ≤ k) (hr : Room k (A.deeper (envOfC "are_hourly" (defScope st_are_hourly) s.heap.objs.size f cdv))) :
    PSs (cxOf CX0 P w K mg base N_are_hourly "are_hourly" (defScope st_are_hourly) f cdv A outer s H E).nox (defBody st_are_hourly) (t_are_hourly K s_is_listed s_is_within) := by
  have nd := sc_are_hourly.nd
  exact (pss_one (ps_ret (pe_andT (C8.pe_c c_is_listed hr hk_is_listed rfl (pa_cons (pv 0) (pa_cons (pv 1) pa_nil))) (pe_one (pe_callB (cr_all rfl) (by rfl) T.f_all (by decide +kernel) (pa_cons (pe_lc (own := [("room", 2)]) (g := (gName 2)) (tt := tYes) rfl nd (pi_seqX (pv 0)) (blkOk_by (by first | decide +kernel | kernel_rfl)) (fun _ _ _ _ _ => (pg_name (i := 2) nd rfl (by first | exact Or.inl rfl | exact Or.inr rfl))) (fun _ _ _ _ _ => pts_nil) (fun _ _ _ _ _ => (C8.pe_c c_is_within hr hk_is_within rfl (pa_cons (pv 2) (pa_cons pe_int (pa_cons (C8.pe_gc rfl T.c_GREATEST_ROOM) pa_nil)))))) pa_nil))))))
/-! ### are_rooms -/
abbrev st_are_rooms : Stmt := top 17
abbrev N_are_rooms : List Str := ["thing", "ways", "last", "row"]
theorem sc_are_rooms : FnScope N_are_rooms ["thing", "ways", "last"] (defScope st_are_rooms) := ⟨rfl, rfl, rfl, by decide +kernel, rfl, by decide +kernel, by decide +kernel⟩
abbrev t_are_rooms (K : PySem.W.Frag) (s_is_listed : DSp) (s_are_hourly : DSp) : TS :=
    (tRet (tAndT K (tCall (upSp K s_is_listed) [] E0 (tCons (tVar 0) (tCons (tVar 1) tNil))) (tCB (rAll K) (tCons (tLc (iSeq K (tVar 0)) (gName 3) tYes (tCall (upSp K s_are_hourly) [] E0 (tCons (tVar 3) (tCons (tOp (rAddX K) (tVar 2) (tC (.int 1))) tNil))) [3]) tNil))))
theorem tm_are_rooms {k : Nat} {f : Addr} {cdv : Value} {A : Around} {outer : List Env} {s : Shared} {H : Hp} {E : XK} {s_is_listed : DSp} {s_are_hourly : DSp} (T : Txt mg) {k_is_listed : Nat} (c_is_listed : C8.Cal P w K mg base k_is_listed "is_listed" (upSp K s_is_listed) []) (hk_is_listed : k_is_listed ≤ k) {k_are_hourly : Nat} (c_are_hourly : C8.Cal P w K mg base k_are_hourly "are_hourly" (upSp K s_are_hourly) []) (hk_are_hourly : k_are_hourly ≤ k) (hr : Room k (A.deeper (envOfC "are_rooms" (defScope st_are_rooms) s.heap.objs.size f cdv))) :
    PSs (cxOf CX0 P w K mg base N_are_rooms "are_rooms" (defScope st_are_rooms) f cdv A outer s H E).nox (defBody st_are_rooms) (t_are_rooms K s_is_listed s_are_hourly) := by
  have nd := sc_are_rooms.nd
  exact (pss_one (ps_ret (pe_andT (C8.pe_c c_is_listed hr hk_is_listed rfl (pa_cons (pv 0) (pa_cons (pv 1) pa_nil))) (pe_one (pe_callB (cr_all rfl) (by rfl) T.f_all (by decide +kernel) (pa_cons (pe_lc (own := [("row", 3)]) (g := (gName 3)) (tt := tYes) rfl nd (pi_seqX (pv 0)) (blkOk_by (by first | decide +kernel | kernel_rfl)) (fun _ _ _ _ _ => (pg_name (i := 3) nd rfl (by first | exact Or.inl rfl | exact Or.inr rfl))) (fun _ _ _ _ _ => pts_nil) (fun _ _ _ _ _ => (C8.pe_c c_are_hourly hr hk_are_hourly rfl (pa_cons (pv 3) (pa_cons (pe_op op_addX (pv 2) pe_int) pa_nil))))) pa_nil))))))
/-! ### are_waits -/
abbrev st_are_waits : Stmt := top 18
abbrev N_are_waits : List Str := ["thing", "many", "last", "row"]
theorem sc_are_waits : FnScope N_are_waits ["thing", "many", "last"] (defScope st_are_waits) := ⟨rfl, rfl, rfl, by decide +kernel, rfl, by decide +kernel, by decide +kernel⟩
abbrev t_are_waits_1 (K : PySem.W.Frag) (s_is_listed : DSp) (s_are_hourly : DSp) : TS :=
    (tRet (tCB (rAll K) (tCons (tLc (iSeq K (tVar 0)) (gName 3) tYes (tOrT K (tOp rIsN (tVar 3) (tC .non)) (tCall (upSp K s_are_hourly) [] E0 (tCons (tVar 3) (tCons (tVar 2) tNil)))) [3]) tNil)))
abbrev t_are_waits (K : PySem.W.Frag) (s_is_listed : DSp) (s_are_hourly : DSp) : TS :=
    (tSeq (tIfS (tOr (tNot (tTru K (tCall (upSp K s_is_listed) [] E0 (tCons (tVar 0) (tCons (tVar 1) tNil))))) (tOr (tTest (tOp rNotN (tOp (rIx K) (tVar 0) (tC (.int 0))) (tC .non))) (tTest (tOp rNotN (tOp (rIx K) (tVar 0) (tOp rISub (tVar 1) (tC (.int 1)))) (tC .non))))) (tRet (tC (.bl false))) tNext) (t_are_waits_1 K s_is_listed s_are_hourly))
theorem tm_are_waits {k : Nat} {f : Addr} {cdv : Value} {A : Around} {outer : List Env} {s : Shared} {H : Hp} {E : XK} {s_is_listed : DSp} {s_are_hourly : DSp} (T : Txt mg) {k_is_listed : Nat} (c_is_listed : C8.Cal P w K mg base k_is_listed "is_listed" (upSp K s_is_listed) []) (hk_is_listed : k_is_listed ≤ k) {k_are_hourly : Nat} (c_are_hourly : C8.Cal P w K mg base k_are_hourly "are_hourly" (upSp K s_are_hourly) []) (hk_are_hourly : k_are_hourly ≤ k) (hr : Room k (A.deeper (envOfC "are_waits" (defScope st_are_waits) s.heap.objs.size f cdv))) :
    PSs (cxOf CX0 P w K mg base N_are_waits "are_waits" (defScope st_are_waits) f cdv A outer s H E).nox (defBody st_are_waits) (t_are_waits K s_is_listed s_are_hourly) := by
  have nd := sc_are_waits.nd
  exact (pss_cons (ps_if (PW.pt (pw_or (pt_not (pt_truth (C8.pe_c c_is_listed hr hk_is_listed rfl (pa_cons (pv 0) (pa_cons (pv 1) pa_nil))) (fun _ => rfl))) (pw_or (pt_cmpR op_notN1 (pe_ix ix_seq (pv 0) pe_int (fun _ _ => rfl)) pe_non (nomark _)) (pw_or1 (pt_cmpR op_notN1 (pe_ix ix_seq (pv 0) (pe_op op_subX (pv 1) pe_int) (fun _ _ => rfl)) pe_non (nomark _)))))) (pss_one (ps_ret pe_bl)) pss_nil)
    (pss_one (ps_ret (pe_callB (cr_all rfl) (by rfl) T.f_all (by decide +kernel) (pa_cons (pe_lc (own := [("row", 3)]) (g := (gName 3)) (tt := tYes) rfl nd (pi_seqX (pv 0)) (blkOk_by (by first | decide +kernel | kernel_rfl)) (fun _ _ _ _ _ => (pg_name (i := 3) nd rfl (by first | exact Or.inl rfl | exact Or.inr rfl))) (fun _ _ _ _ _ => pts_nil) (fun _ _ _ _ _ => (pe_orT (pe_cmpR op_isN1 (pv 3) pe_non (nomark _)) (pe_one (C8.pe_c c_are_hourly hr hk_are_hourly rfl (pa_cons (pv 3) (pa_cons (pv 2) pa_nil))))))) pa_nil)))))
/-! ### taken_row -/
abbrev st_taken_row : Stmt := top 19
abbrev N_taken_row : List Str := ["row"]
theorem sc_taken_row : FnScope N_taken_row ["row"] (defScope st_taken_row) := ⟨rfl, rfl, rfl, by decide +kernel, rfl, by decide +kernel, by decide +kernel⟩
abbrev t_taken_row (K : PySem.W.Frag)  : TS :=
    (tSeq (tIfS (tTest (tOp rIsN (tVar 0) (tC .non))) (tRet (tC .non)) tNext) (tRet (tThen (tVar 0) (kTup K))))
theorem tm_taken_row {k : Nat} {f : Addr} {cdv : Value} {A : Around} {outer : List Env} {s : Shared} {H : Hp} {E : XK}  (T : Txt mg)  (hr : Room k (A.deeper (envOfC "taken_row" (defScope st_taken_row) s.heap.objs.size f cdv))) :
    PSs (cxOf CX0 P w K mg base N_taken_row "taken_row" (defScope st_taken_row) f cdv A outer s H E).nox (defBody st_taken_row) (t_taken_row K ) := by
  have nd := sc_taken_row.nd
  exact (pss_cons (ps_if (pt_cmpR op_isN1 (pv 0) pe_non (nomark _)) (pss_one (ps_ret pe_non)) pss_nil)
    (pss_one (ps_ret (pe_tupleOf rfl T.f_tuple (pv 0)))))
/-! ### made_calendar -/
abbrev st_made_calendar : Stmt := top 20
abbrev N_made_calendar : List Str := ["many", "last", "ways", "rooms", "waits", "roads", "way", "row"]
theorem sc_made_calendar : FnScope N_made_calendar ["many", "last", "ways", "rooms", "waits"] (defScope st_made_calendar) := ⟨rfl, rfl, rfl, by decide +kernel, rfl, by decide +kernel, by decide +kernel⟩
abbrev t_made_calendar_1 (K : PySem.W.Frag) (s_is_within : DSp) (s_are_roads : DSp) (s_are_rooms : DSp) (s_are_waits : DSp) (s_taken_row : DSp) : TS :=
    (tRet (tTup (tCons (tVar 0) (tCons (tVar 1) (tCons (tVar 5) (tCons (tThen (tLc (iSeq K (tVar 3)) (gName 7) tYes (tThen (tVar 7) (kTup K)) [7]) (kTup K)) (tCons (tThen (tLc (iSeq K (tVar 4)) (gName 7) tYes (tCall (upSp K s_taken_row) [] E0 (tCons (tVar 7) tNil)) [7]) (kTup K)) tNil)))))))
abbrev t_made_calendar_2 (K : PySem.W.Frag) (s_is_within : DSp) (s_are_roads : DSp) (s_are_rooms : DSp) (s_are_waits : DSp) (s_taken_row : DSp) : TS :=
    (tSeq (tAsg (tThen (tLc (iSeq K (tVar 2)) (gName 6) tYes (tThen (tVar 6) (kTup K)) [6]) (kTup K)) (gName 5)) (t_made_calendar_1 K s_is_within s_are_roads s_are_rooms s_are_waits s_taken_row))
abbrev t_made_calendar_3 (K : PySem.W.Frag) (s_is_within : DSp) (s_are_roads : DSp) (s_are_rooms : DSp) (s_are_waits : DSp) (s_taken_row : DSp) : TS :=
    (tSeq (tIfS (tNot (tTru K (tCall (upSp K s_are_waits) [] E0 (tCons (tVar 4) (tCons (tVar 0) (tCons (tVar 1) tNil)))))) tNever tNext) (t_made_calendar_2 K s_is_within s_are_roads s_are_rooms s_are_waits s_taken_row))
abbrev t_made_calendar_4 (K : PySem.W.Frag) (s_is_within : DSp) (s_are_roads : DSp) (s_are_rooms : DSp) (s_are_waits : DSp) (s_taken_row : DSp) : TS :=
    (tSeq (tIfS (tNot (tTru K (tCall (upSp K s_are_rooms) [] E0 (tCons (tVar 3) (tCons (tCB (rLenX K) (tCons (tVar 2) tNil)) (tCons (tVar 1) tNil)))))) tNever tNext) (t_made_calendar_3 K s_is_within s_are_roads s_are_rooms s_are_waits s_taken_row))
abbrev t_made_calendar_5 (K : PySem.W.Frag) (s_is_within : DSp) (s_are_roads : DSp) (s_are_rooms : DSp) (s_are_waits : DSp) (s_taken_row : DSp) : TS :=
    (tSeq (tIfS (tNot (tTru K (tCall (upSp K s_are_roads) [] E0 (tCons (tVar 2) (tCons (tVar 0) tNil))))) tNever tNext) (t_made_calendar_4 K s_is_within s_are_roads s_are_rooms s_are_waits s_taken_row))
abbrev t_made_calendar_6 (K : PySem.W.Frag) (s_is_within : DSp) (s_are_roads : DSp) (s_are_rooms : DSp) (s_are_waits : DSp) (s_taken_row : DSp) : TS :=
    (tSeq (tIfS (tNot (tTru K (tCall (upSp K s_is_within) [] E0 (tCons (tVar 1) (tCons (tC (.int 0)) (tCons (tC (.int 12)) tNil)))))) tNever tNext) (t_made_calendar_5 K s_is_within s_are_roads s_are_rooms s_are_waits s_taken_row))
abbrev t_made_calendar (K : PySem.W.Frag) (s_is_within : DSp) (s_are_roads : DSp) (s_are_rooms : DSp) (s_are_waits : DSp) (s_taken_row : DSp) : TS :=
    (tSeq (tIfS (tNot (tTru K (tCall (upSp K s_is_within) [] E0 (tCons (tVar 0) (tCons (tC (.int 2)) (tCons (tC (.int 6)) tNil)))))) tNever tNext) (t_made_calendar_6 K s_is_within s_are_roads s_are_rooms s_are_waits s_taken_row))
theorem tm_made_calendar {k : Nat} {f : Addr} {cdv : Value} {A : Around} {outer : List Env} {s : Shared} {H : Hp} {E : XK} {s_is_within : DSp} {s_are_roads : DSp} {s_are_rooms : DSp} {s_are_waits : DSp} {s_taken_row : DSp} (T : Txt mg) {k_is_within : Nat} (c_is_within : C8.Cal P w K mg base k_is_within "is_within" (upSp K s_is_within) []) (hk_is_within : k_is_within ≤ k) {k_are_roads : Nat} (c_are_roads : C8.Cal P w K mg base k_are_roads "are_roads" (upSp K s_are_roads) []) (hk_are_roads : k_are_roads ≤ k) {k_are_rooms : Nat} (c_are_rooms : C8.Cal P w K mg base k_are_rooms "are_rooms" (upSp K s_are_rooms) []) (hk_are_rooms : k_are_rooms ≤ k) {k_are_waits : Nat} (c_are_waits : C8.Cal P w K mg base k_are_waits "are_waits" (upSp K s_are_waits) []) (hk_are_waits : k_are_waits ≤ k) {k_taken_row : Nat} (c_taken_row : C8.Cal P w K mg base k_taken_row "taken_row" (upSp K s_taken_row) []) (hk_taken_row : k_taken_row ≤ k) (hr : Room k (A.deeper (envOfC "made_calendar" (defScope st_made_calendar) s.heap.objs.size f cdv))) :
    PSs (cxOf CX0 P w K mg base N_made_calendar "made_calendar" (defScope st_made_calendar) f cdv A outer s H E).nox (defBody st_made_calendar) (t_made_calendar K s_is_within s_are_roads s_are_rooms s_are_waits s_taken_row) := by
  have nd := sc_made_calendar.nd
  exact (pss_cons (ps_if (pt_not (pt_truth (C8.pe_c c_is_within hr hk_is_within rfl (pa_cons (pv 0) (pa_cons (C8.pe_gc rfl T.c_LEAST_PLACES) (pa_cons (C8.pe_gc rfl T.c_MOST_PLACES) pa_nil)))) (fun _ => rfl))) (pss_one ps_never) pss_nil)
    (pss_cons (ps_if (pt_not (pt_truth (C8.pe_c c_is_within hr hk_is_within rfl (pa_cons (pv 1) (pa_cons pe_int (pa_cons (C8.pe_gc rfl T.c_MOST_LAST) pa_nil)))) (fun _ => rfl))) (pss_one ps_never) pss_nil)
    (pss_cons (ps_if (pt_not (pt_truth (C8.pe_c c_are_roads hr hk_are_roads rfl (pa_cons (pv 2) (pa_cons (pv 0) pa_nil))) (fun _ => rfl))) (pss_one ps_never) pss_nil)
    (pss_cons (ps_if (pt_not (pt_truth (C8.pe_c c_are_rooms hr hk_are_rooms rfl (pa_cons (pv 3) (pa_cons (pe_callB call_lenX (by rfl) T.f_len (by decide +kernel) (pa_cons (pv 2) pa_nil)) (pa_cons (pv 1) pa_nil)))) (fun _ => rfl))) (pss_one ps_never) pss_nil)
    (pss_cons (ps_if (pt_not (pt_truth (C8.pe_c c_are_waits hr hk_are_waits rfl (pa_cons (pv 4) (pa_cons (pv 0) (pa_cons (pv 1) pa_nil)))) (fun _ => rfl))) (pss_one ps_never) pss_nil)
    (pss_cons (ps_set (i := 5) nd rfl (by first | exact Or.inl rfl | exact Or.inr rfl) (pe_tupleOf rfl T.f_tuple (pe_lc (own := [("way", 6)]) (g := (gName 6)) (tt := tYes) rfl nd (pi_seqX (pv 2)) (blkOk_by (by first | decide +kernel | kernel_rfl)) (fun _ _ _ _ _ => (pg_name (i := 6) nd rfl (by first | exact Or.inl rfl | exact Or.inr rfl))) (fun _ _ _ _ _ => pts_nil) (fun _ _ _ _ _ => (pe_tupleOf rfl T.f_tuple (pv 6))))))
    (pss_one (ps_ret (pe_tup (pa_cons (pv 0) (pa_cons (pv 1) (pa_cons (pv 5) (pa_cons (pe_tupleOf rfl T.f_tuple (pe_lc (own := [("row", 7)]) (g := (gName 7)) (tt := tYes) rfl nd (pi_seqX (pv 3)) (blkOk_by (by first | decide +kernel | kernel_rfl)) (fun _ _ _ _ _ => (pg_name (i := 7) nd rfl (by first | exact Or.inl rfl | exact Or.inr rfl))) (fun _ _ _ _ _ => pts_nil) (fun _ _ _ _ _ => (pe_tupleOf rfl T.f_tuple (pv 7))))) (pa_cons (pe_tupleOf rfl T.f_tuple (pe_lc (own := [("row", 7)]) (g := (gName 7)) (tt := tYes) rfl nd (pi_seqX (pv 4)) (blkOk_by (by first | decide +kernel | kernel_rfl)) (fun _ _ _ _ _ => (pg_name (i := 7) nd rfl (by first | exact Or.inl rfl | exact Or.inr rfl))) (fun _ _ _ _ _ => pts_nil) (fun _ _ _ _ _ => (C8.pe_c c_taken_row hr hk_taken_row rfl (pa_cons (pv 7) pa_nil))))) pa_nil))))))))))))))
/-! ### net_calendar -/
abbrev st_net_calendar : Stmt := top 21
abbrev N_net_calendar : List Str := ["net", "last", "ways", "way"]
theorem sc_net_calendar : FnScope N_net_calendar ["net", "last"] (defScope st_net_calendar) := ⟨rfl, rfl, rfl, by decide +kernel, rfl, by decide +kernel, by decide +kernel⟩
abbrev t_net_calendar_1 (K : PySem.W.Frag)  : TS :=
    (tRet (tTup (tCons (tOp (rIx K) (tVar 0) (tC (.int 0))) (tCons (tVar 1) (tCons (tVar 2) (tCons (tThen (tLc (iSeq K (tOp (rIx K) (tVar 0) (tC (.int 1)))) (gName 3) tYes (tOp (rMulX K) (tTup (tCons (tOp (rIx K) (tVar 3) (tC (.int 2))) tNil)) (tOp (rAddX K) (tVar 1) (tC (.int 1)))) [3]) (kTup K)) (tCons (tOp (rMulX K) (tTup (tCons (tC .non) tNil)) (tOp (rIx K) (tVar 0) (tC (.int 0)))) tNil)))))))
abbrev t_net_calendar (K : PySem.W.Frag)  : TS :=
    (tSeq (tAsg (tThen (tLc (iSeq K (tOp (rIx K) (tVar 0) (tC (.int 1)))) (gName 3) tYes (tTup (tCons (tOp (rIx K) (tVar 3) (tC (.int 0))) (tCons (tOp (rIx K) (tVar 3) (tC (.int 1))) (tCons (tOp (rIx K) (tVar 3) (tC (.int 3))) tNil)))) [3]) (kTup K)) (gName 2)) (t_net_calendar_1 K ))
theorem tm_net_calendar {k : Nat} {f : Addr} {cdv : Value} {A : Around} {outer : List Env} {s : Shared} {H : Hp} {E : XK}  (T : Txt mg)  (hr : Room k (A.deeper (envOfC "net_calendar" (defScope st_net_calendar) s.heap.objs.size f cdv))) :
    PSs (cxOf CX0 P w K mg base N_net_calendar "net_calendar" (defScope st_net_calendar) f cdv A outer s H E).nox (defBody st_net_calendar) (t_net_calendar K ) := by
  have nd := sc_net_calendar.nd
  exact (pss_cons (ps_set (i := 2) nd rfl (by first | exact Or.inl rfl | exact Or.inr rfl) (pe_tupleOf rfl T.f_tuple (pe_lc (own := [("way", 3)]) (g := (gName 3)) (tt := tYes) rfl nd (pi_seqX (pe_ix ix_seq (pv 0) pe_int (fun _ _ => rfl))) (blkOk_by (by first | decide +kernel | kernel_rfl)) (fun _ _ _ _ _ => (pg_name (i := 3) nd rfl (by first | exact Or.inl rfl | exact Or.inr rfl))) (fun _ _ _ _ _ => pts_nil) (fun _ _ _ _ _ => (pe_tup (pa_cons (pe_ix ix_seq (pv 3) pe_int (fun _ _ => rfl)) (pa_cons (pe_ix ix_seq (pv 3) pe_int (fun _ _ => rfl)) (pa_cons (pe_ix ix_seq (pv 3) pe_int (fun _ _ => rfl)) pa_nil))))))))
    (pss_one (ps_ret (pe_tup (pa_cons (pe_ix ix_seq (pv 0) pe_int (fun _ _ => rfl)) (pa_cons (pv 1) (pa_cons (pv 2) (pa_cons (pe_tupleOf rfl T.f_tuple (pe_lc (own := [("way", 3)]) (g := (gName 3)) (tt := tYes) rfl nd (pi_seqX (pe_ix ix_seq (pv 0) pe_int (fun _ _ => rfl))) (blkOk_by (by first | decide +kernel | kernel_rfl)) (fun _ _ _ _ _ => (pg_name (i := 3) nd rfl (by first | exact Or.inl rfl | exact Or.inr rfl))) (fun _ _ _ _ _ => pts_nil) (fun _ _ _ _ _ => (pe_op op_mulX' (pe_tup (pa_cons (pe_ix ix_seq (pv 3) pe_int (fun _ _ => rfl)) pa_nil)) (pe_op op_addX (pv 1) pe_int))))) (pa_cons (pe_op op_mulX' (pe_tup (pa_cons pe_non pa_nil)) (pe_ix ix_seq (pv 0) pe_int (fun _ _ => rfl))) pa_nil)))))))))
/-! ### _law_pool -/
abbrev st__law_pool : Stmt := top 23
abbrev N__law_pool : List Str := ["cell"]
theorem sc__law_pool : FnScope N__law_pool ["cell"] (defScope st__law_pool) := ⟨rfl, rfl, rfl, by decide +kernel, rfl, by decide +kernel, by decide +kernel⟩
abbrev t__law_pool (K : PySem.W.Frag)  : TS :=
    (tRet (tLst (tCons (tCB rMax2' (tCons (tC (.int 0)) (tCons (tOp rISub (tCB rAbs1 (tCons (tVar 0) tNil)) (tOp rIPow (tC (.int 10)) (tC (.int 18)))) tNil))) (tCons (tOp rIMod (tVar 0) (tOp rIPow (tC (.int 10)) (tC (.int 18)))) (tCons (tC (.int 0)) tNil)))))
theorem tm__law_pool {k : Nat} {f : Addr} {cdv : Value} {A : Around} {outer : List Env} {s : Shared} {H : Hp} {E : XK}  (T : Txt mg)  (hr : Room k (A.deeper (envOfC "_law_pool" (defScope st__law_pool) s.heap.objs.size f cdv))) :
    PSs (cxOf CX0 P w K mg base N__law_pool "_law_pool" (defScope st__law_pool) f cdv A outer s H E).nox (defBody st__law_pool) (t__law_pool K ) := by
  have nd := sc__law_pool.nd
  exact (pss_one (ps_ret (pe_lst (pa_cons (pe_callB (call_maxX rfl) (by rfl) T.f_max (by decide +kernel) (pa_cons pe_int (pa_cons (pe_op op_subX (pe_callB call_absX (by rfl) T.f_abs (by decide +kernel) (pa_cons (pv 0) pa_nil)) (pe_op op_powX pe_int pe_int)) pa_nil))) (pa_cons (pe_op op_modX (pv 0) (pe_op op_powX pe_int pe_int)) (pa_cons pe_int pa_nil))))))
/-! ### _law_next -/
abbrev st__law_next : Stmt := top 24
abbrev N__law_next : List Str := ["pool", "base", "near", "stir", "digit"]
theorem sc__law_next : FnScope N__law_next ["pool", "base"] (defScope st__law_next) := ⟨rfl, rfl, rfl, by decide +kernel, rfl, by decide +kernel, by decide +kernel⟩
abbrev t__law_next_1 (K : PySem.W.Frag)  : TS :=
    (tSeq (tAsg (tOp rIDiv (tOp (rIx K) (tVar 0) (tC (.int 0))) (tVar 1)) (gSub (tVar 0) (tC (.int 0)) rSetL)) (tRet (tVar 4)))
abbrev t__law_next_2 (K : PySem.W.Frag)  : TS :=
    (tSeq (tAsg (tOp rIMod (tOp (rIx K) (tVar 0) (tC (.int 0))) (tVar 1)) (gName 4)) (t__law_next_1 K ))
abbrev t__law_next_3 (K : PySem.W.Frag)  : TS :=
    (tRet (tOp rIMod (tOp rIDiv (tOp rIMod (tOp (rMulX K) (tVar 3) (tVar 3)) (tC (.int 2147483647))) (tC (.int 8))) (tVar 1)))
abbrev t__law_next_4 (K : PySem.W.Frag)  : TS :=
    (tSeq (tAsg (tOp rIMod (tOp (rMulX K) (tOp (rAddX K) (tVar 2) (tC (.int 11))) (tOp (rAddX K) (tVar 2) (tC (.int 48271)))) (tC (.int 998244353))) (gName 3)) (t__law_next_3 K ))
abbrev t__law_next_5 (K : PySem.W.Frag)  : TS :=
    (tSeq (tAsg (tOp rIMod (tOp (rAddX K) (tOp (rIx K) (tVar 0) (tC (.int 1))) (tOp (rMulX K) (tC (.int 7919)) (tOp (rIx K) (tVar 0) (tC (.int 2))))) (tC (.int 1000000007))) (gName 2)) (t__law_next_4 K ))
abbrev t__law_next_6 (K : PySem.W.Frag)  : TS :=
    (tSeq (tAsg (tOp (rAddX K) (tOp (rIx K) (tVar 0) (tC (.int 2))) (tC (.int 1))) (gSub (tVar 0) (tC (.int 2)) rSetL)) (t__law_next_5 K ))
abbrev t__law_next (K : PySem.W.Frag)  : TS :=
    (tSeq (tIfS (tTest (tOp rIGt (tOp (rIx K) (tVar 0) (tC (.int 0))) (tC (.int 0)))) (t__law_next_2 K ) tNext) (t__law_next_6 K ))
theorem tm__law_next {k : Nat} {f : Addr} {cdv : Value} {A : Around} {outer : List Env} {s : Shared} {H : Hp} {E : XK}  (T : Txt mg)  (hr : Room k (A.deeper (envOfC "_law_next" (defScope st__law_next) s.heap.objs.size f cdv))) :
    PSs (cxOf CX0 P w K mg base N__law_next "_law_next" (defScope st__law_next) f cdv A outer s H E).nox (defBody st__law_next) (t__law_next K ) := by
  have nd := sc__law_next.nd
  exact (pss_cons (ps_if (pt_cmpR op_gtX (pe_ix ix_seq (pv 0) pe_int (fun _ _ => rfl)) pe_int (nomark _)) (pss_cons (ps_set (i := 4) nd rfl (by first | exact Or.inl rfl | exact Or.inr rfl) (pe_op op_modX (pe_ix ix_seq (pv 0) pe_int (fun _ _ => rfl)) (pv 1)))
    (pss_cons (ps_asg (pe_op op_divX (pe_ix ix_seq (pv 0) pe_int (fun _ _ => rfl)) (pv 1)) (pg_sub (pv 0) pe_int set_list))
    (pss_one (ps_ret (pv 4))))) pss_nil)
    (pss_cons (ps_asg (pe_op op_addX (pe_ix ix_seq (pv 0) pe_int (fun _ _ => rfl)) pe_int) (pg_sub (pv 0) pe_int set_list))
    (pss_cons (ps_set (i := 2) nd rfl (by first | exact Or.inl rfl | exact Or.inr rfl) (pe_op op_modX (pe_op op_addX (pe_ix ix_seq (pv 0) pe_int (fun _ _ => rfl)) (pe_op op_mulX' pe_int (pe_ix ix_seq (pv 0) pe_int (fun _ _ => rfl)))) pe_int))
    (pss_cons (ps_set (i := 3) nd rfl (by first | exact Or.inl rfl | exact Or.inr rfl) (pe_op op_modX (pe_op op_mulX' (pe_op op_addX (pv 2) pe_int) (pe_op op_addX (pv 2) pe_int)) pe_int))
    (pss_one (ps_ret (pe_op op_modX (pe_op op_divX (pe_op op_modX (pe_op op_mulX' (pv 3) (pv 3)) pe_int) pe_int) (pv 1))))))))
/-! ### _law_wide -/
abbrev st__law_wide : Stmt := top 25
abbrev N__law_wide : List Str := ["pool", "base"]
theorem sc__law_wide : FnScope N__law_wide ["pool", "base"] (defScope st__law_wide) := ⟨rfl, rfl, rfl, by decide +kernel, rfl, by decide +kernel, by decide +kernel⟩
abbrev t__law_wide (K : PySem.W.Frag) (s__law_next : DSp) : TS :=
    (tRet (tOp rIMod (tOp (rAddX K) (tOp (rMulX K) (tCall (upSp K s__law_next) [] E0 (tCons (tVar 0) (tCons (tC (.int 100000)) tNil))) (tC (.int 100000))) (tCall (upSp K s__law_next) [] E0 (tCons (tVar 0) (tCons (tC (.int 100000)) tNil)))) (tVar 1)))
theorem tm__law_wide {k : Nat} {f : Addr} {cdv : Value} {A : Around} {outer : List Env} {s : Shared} {H : Hp} {E : XK} {s__law_next : DSp} (T : Txt mg) {k__law_next : Nat} (c__law_next : C8.Cal P w K mg base k__law_next "_law_next" (upSp K s__law_next) []) (hk__law_next : k__law_next ≤ k) (hr : Room k (A.deeper (envOfC "_law_wide" (defScope st__law_wide) s.heap.objs.size f cdv))) :
    PSs (cxOf CX0 P w K mg base N__law_wide "_law_wide" (defScope st__law_wide) f cdv A outer s H E).nox (defBody st__law_wide) (t__law_wide K s__law_next) := by
  have nd := sc__law_wide.nd
  exact (pss_one (ps_ret (pe_op op_modX (pe_op op_addX (pe_op op_mulX' (C8.pe_c c__law_next hr hk__law_next rfl (pa_cons (pv 0) (pa_cons pe_int pa_nil))) pe_int) (C8.pe_c c__law_next hr hk__law_next rfl (pa_cons (pv 0) (pa_cons pe_int pa_nil)))) (pv 1))))
/-! ### _law_roads -/
abbrev st__law_roads : Stmt := top 26
abbrev N__law_roads : List Str := ["pool", "many", "roads", "place", "k", "found", "begin", "end"]
theorem sc__law_roads : FnScope N__law_roads ["pool", "many"] (defScope st__law_roads) := ⟨rfl, rfl, rfl, by decide +kernel, rfl, by decide +kernel, by decide +kernel⟩
abbrev t__law_roads_1 (K : PySem.W.Frag) (s__law_next : DSp) (s__law_wide : DSp) : TS :=
    (tDrop (tBM K "list" rAppend (tVar 2) (tCons (tTup (tCons (tVar 3) (tCons (tOp (rAddX K) (tVar 3) (tC (.int 1))) tNil))) tNil)))
abbrev t__law_roads_2 (K : PySem.W.Frag) (s__law_next : DSp) (s__law_wide : DSp) : TS :=
    (tIfS (tTest (tOp rIGt (tCall (upSp K s__law_next) [] E0 (tCons (tVar 0) (tCons (tC (.int 8)) tNil))) (tC (.int 0)))) (t__law_roads_1 K s__law_next s__law_wide) tNext)
abbrev t__law_roads_3 (K : PySem.W.Frag) (s__law_next : DSp) (s__law_wide : DSp) : TS :=
    (tDrop (tBM K "list" rAppend (tVar 2) (tCons (tTup (tCons (tVar 6) (tCons (tOp rIMod (tOp (rAddX K) (tOp (rAddX K) (tVar 6) (tC (.int 1))) (tCall (upSp K s__law_next) [] E0 (tCons (tVar 0) (tCons (tOp rISub (tVar 1) (tC (.int 1))) tNil)))) (tVar 1)) tNil))) tNil)))
abbrev t__law_roads_4 (K : PySem.W.Frag) (s__law_next : DSp) (s__law_wide : DSp) : TS :=
    (tSeq (tAsg (tCall (upSp K s__law_next) [] E0 (tCons (tVar 0) (tCons (tVar 1) tNil))) (gName 6)) (t__law_roads_3 K s__law_next s__law_wide))
abbrev t__law_roads_5 (K : PySem.W.Frag) (s__law_next : DSp) (s__law_wide : DSp) : TS :=
    (tDrop (tBM K "list" rAppend (tVar 5) (tCons (tTup (tCons (tVar 6) (tCons (tVar 7) (tCons (tOp (rIx K) (tLst (tCons (tC (.int 1)) (tCons (tC (.int 1)) (tCons (tC (.int 2)) (tCons (tC (.int 2)) (tCons (tC (.int 3)) (tCons (tOp (rAddX K) (tC (.int 1)) (tCall (upSp K s__law_next) [] E0 (tCons (tVar 0) (tCons (tC (.int 5)) tNil)))) (tCons (tOp (rAddX K) (tC (.int 1)) (tCall (upSp K s__law_wide) [] E0 (tCons (tVar 0) (tCons (tOp rIPow (tC (.int 10)) (tC (.int 6))) tNil)))) tNil)))))))) (tCall (upSp K s__law_next) [] E0 (tCons (tVar 0) (tCons (tC (.int 7)) tNil)))) tNil)))) tNil)))
abbrev t__law_roads_6 (K : PySem.W.Frag) (s__law_next : DSp) (s__law_wide : DSp) : TS :=
    (tSeq (tFor (iSeq K (tVar 2)) (gTup K 2 (gCons (gName 6) (gCons (gName 7) gNil)))
    (t__law_roads_5 K s__law_next s__law_wide)) (tRet (tVar 5)))
abbrev t__law_roads_7 (K : PySem.W.Frag) (s__law_next : DSp) (s__law_wide : DSp) : TS :=
    (tSeq (tFor (iRng1 (tCons (tCall (upSp K s__law_next) [] E0 (tCons (tVar 0) (tCons (tOp rISub (tC (.int 13)) (tCB (rLenX K) (tCons (tVar 2) tNil))) tNil))) tNil)) (gName 4)
    (t__law_roads_4 K s__law_next s__law_wide)) (tSeq (tAsg (tLst tNil) (gName 5)) (t__law_roads_6 K s__law_next s__law_wide)))
abbrev t__law_roads_8 (K : PySem.W.Frag) (s__law_next : DSp) (s__law_wide : DSp) : TS :=
    (tSeq (tFor (iRng1 (tCons (tOp rISub (tVar 1) (tC (.int 1))) tNil)) (gName 3)
    (t__law_roads_2 K s__law_next s__law_wide)) (t__law_roads_7 K s__law_next s__law_wide))
abbrev t__law_roads (K : PySem.W.Frag) (s__law_next : DSp) (s__law_wide : DSp) : TS :=
    (tSeq (tAsg (tLst tNil) (gName 2)) (t__law_roads_8 K s__law_next s__law_wide))
theorem tm__law_roads {k : Nat} {f : Addr} {cdv : Value} {A : Around} {outer : List Env} {s : Shared} {H : Hp} {E : XK} {s__law_next : DSp} {s__law_wide : DSp} (T : Txt mg) {k__law_next : Nat} (c__law_next : C8.Cal P w K mg base k__law_next "_law_next" (upSp K s__law_next) []) (hk__law_next : k__law_next ≤ k) {k__law_wide : Nat} (c__law_wide : C8.Cal P w K mg base k__law_wide "_law_wide" (upSp K s__law_wide) []) (hk__law_wide : k__law_wide ≤ k) (hr : Room k (A.deeper (envOfC "_law_roads" (defScope st__law_roads) s.heap.objs.size f cdv))) :
    PSs (cxOf CX0 P w K mg base N__law_roads "_law_roads" (defScope st__law_roads) f cdv A outer s H E).nox (defBody st__law_roads) (t__law_roads K s__law_next s__law_wide) := by
  have nd := sc__law_roads.nd
  exact (pss_cons (ps_set (i := 2) nd rfl (by first | exact Or.inl rfl | exact Or.inr rfl) (pe_lst pa_nil))
    (pss_cons (ps_for PassesOwn.never rfl (pi_range1 (by rfl) T.f_range (pa_cons (pe_op op_subX (pv 1) pe_int) pa_nil)) (pg_name (i := 3) nd rfl (by first | exact Or.inl rfl | exact Or.inr rfl))
    (pss_one (ps_if (pt_cmpR op_gtX (C8.pe_c c__law_next hr hk__law_next rfl (pa_cons (pv 0) (pa_cons pe_int pa_nil))) pe_int (nomark _)) (pss_one (ps_expr (pe_bm PySem.F.plainAttrs_list PySem.F.slot_list_append PySem.F.type_list_append mt_append (pv 2) (pa_cons (pe_tup (pa_cons (pv 3) (pa_cons (pe_op op_addX (pv 3) pe_int) pa_nil))) pa_nil)))) pss_nil)))
    (pss_cons (ps_for PassesOwn.never rfl (pi_range1 (by rfl) T.f_range (pa_cons (C8.pe_c c__law_next hr hk__law_next rfl (pa_cons (pv 0) (pa_cons (pe_op op_subX pe_int (pe_callB call_lenX (by rfl) T.f_len (by decide +kernel) (pa_cons (pv 2) pa_nil))) pa_nil))) pa_nil)) (pg_name (i := 4) nd rfl (by first | exact Or.inl rfl | exact Or.inr rfl))
    (pss_cons (ps_set (i := 6) nd rfl (by first | exact Or.inl rfl | exact Or.inr rfl) (C8.pe_c c__law_next hr hk__law_next rfl (pa_cons (pv 0) (pa_cons (pv 1) pa_nil))))
    (pss_one (ps_expr (pe_bm PySem.F.plainAttrs_list PySem.F.slot_list_append PySem.F.type_list_append mt_append (pv 2) (pa_cons (pe_tup (pa_cons (pv 6) (pa_cons (pe_op op_modX (pe_op op_addX (pe_op op_addX (pv 6) pe_int) (C8.pe_c c__law_next hr hk__law_next rfl (pa_cons (pv 0) (pa_cons (pe_op op_subX (pv 1) pe_int) pa_nil)))) (pv 1)) pa_nil))) pa_nil))))))
    (pss_cons (ps_set (i := 5) nd rfl (by first | exact Or.inl rfl | exact Or.inr rfl) (pe_lst pa_nil))
    (pss_cons (ps_for PassesOwn.never rfl (pi_seqX (pv 2)) (pg_tup rfl (pgs_cons (pg_name (i := 6) nd rfl (by first | exact Or.inl rfl | exact Or.inr rfl)) (pgs_cons (pg_name (i := 7) nd rfl (by first | exact Or.inl rfl | exact Or.inr rfl)) pgs_nil)))
    (pss_one (ps_expr (pe_bm PySem.F.plainAttrs_list PySem.F.slot_list_append PySem.F.type_list_append mt_append (pv 5) (pa_cons (pe_tup (pa_cons (pv 6) (pa_cons (pv 7) (pa_cons (pe_ix ix_seq (pe_lst (pa_cons pe_int (pa_cons pe_int (pa_cons pe_int (pa_cons pe_int (pa_cons pe_int (pa_cons (pe_op op_addX pe_int (C8.pe_c c__law_next hr hk__law_next rfl (pa_cons (pv 0) (pa_cons pe_int pa_nil)))) (pa_cons (pe_op op_addX pe_int (C8.pe_c c__law_wide hr hk__law_wide rfl (pa_cons (pv 0) (pa_cons (pe_op op_powX pe_int pe_int) pa_nil)))) pa_nil)))))))) (C8.pe_c c__law_next hr hk__law_next rfl (pa_cons (pv 0) (pa_cons pe_int pa_nil))) (fun _ _ => rfl)) pa_nil)))) pa_nil)))))
    (pss_one (ps_ret (pv 5))))))))
/-! ### _law_rows -/
abbrev st__law_rows : Stmt := top 27
abbrev N__law_rows : List Str := ["pool", "many", "length", "high", "k", "hour"]
theorem sc__law_rows : FnScope N__law_rows ["pool", "many", "length"] (defScope st__law_rows) := ⟨rfl, rfl, rfl, by decide +kernel, rfl, by decide +kernel, by decide +kernel⟩
abbrev t__law_rows_1 (K : PySem.W.Frag) (s__law_next : DSp) (s__law_wide : DSp) : TS :=
    (tRet (tLc (iRng1 (tCons (tVar 1) tNil)) (gName 4) tYes (tLc (iRng1 (tCons (tVar 2) tNil)) (gName 5) tYes (tCall (upSp K s__law_wide) [] E0 (tCons (tVar 0) (tCons (tVar 3) tNil))) [5]) [4]))
abbrev t__law_rows (K : PySem.W.Frag) (s__law_next : DSp) (s__law_wide : DSp) : TS :=
    (tSeq (tAsg (tOp (rIx K) (tLst (tCons (tC (.int 3)) (tCons (tC (.int 10)) (tCons (tOp (rAddX K) (tOp rIPow (tC (.int 10)) (tC (.int 9))) (tC (.int 1))) tNil)))) (tCall (upSp K s__law_next) [] E0 (tCons (tVar 0) (tCons (tC (.int 3)) tNil)))) (gName 3)) (t__law_rows_1 K s__law_next s__law_wide))
theorem tm__law_rows {k : Nat} {f : Addr} {cdv : Value} {A : Around} {outer : List Env} {s : Shared} {H : Hp} {E : XK} {s__law_next : DSp} {s__law_wide : DSp} (T : Txt mg) {k__law_next : Nat} (c__law_next : C8.Cal P w K mg base k__law_next "_law_next" (upSp K s__law_next) []) (hk__law_next : k__law_next ≤ k) {k__law_wide : Nat} (c__law_wide : C8.Cal P w K mg base k__law_wide "_law_wide" (upSp K s__law_wide) []) (hk__law_wide : k__law_wide ≤ k) (hr : Room k (A.deeper (envOfC "_law_rows" (defScope st__law_rows) s.heap.objs.size f cdv))) :
    PSs (cxOf CX0 P w K mg base N__law_rows "_law_rows" (defScope st__law_rows) f cdv A outer s H E).nox (defBody st__law_rows) (t__law_rows K s__law_next s__law_wide) := by
  have nd := sc__law_rows.nd
  exact (pss_cons (ps_set (i := 3) nd rfl (by first | exact Or.inl rfl | exact Or.inr rfl) (pe_ix ix_seq (pe_lst (pa_cons pe_int (pa_cons pe_int (pa_cons (pe_op op_addX (pe_op op_powX pe_int pe_int) pe_int) pa_nil)))) (C8.pe_c c__law_next hr hk__law_next rfl (pa_cons (pv 0) (pa_cons pe_int pa_nil))) (fun _ _ => rfl)))
    (pss_one (ps_ret (pe_lc (own := [("k", 4)]) (g := (gName 4)) (tt := tYes) rfl nd (pi_range1 (by rfl) T.f_range (pa_cons (pv 1) pa_nil)) (blkOk_by (by first | decide +kernel | kernel_rfl)) (fun _ _ _ _ _ => (pg_name (i := 4) nd rfl (by first | exact Or.inl rfl | exact Or.inr rfl))) (fun _ _ _ _ _ => pts_nil) (fun _ _ _ _ _ => (pe_lc (own := [("hour", 5)]) (g := (gName 5)) (tt := tYes) rfl nd (pi_range1 (by rfl) T.f_range (pa_cons (pv 2) pa_nil)) (blkOk_by (by first | decide +kernel | kernel_rfl)) (fun _ _ _ _ _ => (pg_name (i := 5) nd rfl (by first | exact Or.inl rfl | exact Or.inr rfl))) (fun _ _ _ _ _ => pts_nil) (fun _ _ _ _ _ => (C8.pe_c c__law_wide hr hk__law_wide rfl (pa_cons (pv 0) (pa_cons (pv 3) pa_nil))))))))))
/-! ### _law_as -/
abbrev st__law_as : Stmt := top 28
abbrev N__law_as : List Str := ["pool", "row"]
theorem sc__law_as : FnScope N__law_as ["pool", "row"] (defScope st__law_as) := ⟨rfl, rfl, rfl, by decide +kernel, rfl, by decide +kernel, by decide +kernel⟩
abbrev t__law_as (K : PySem.W.Frag) (s__law_next : DSp) : TS :=
    (tSeq (tIfS (tTest (tOp (rEqX K) (tCall (upSp K s__law_next) [] E0 (tCons (tVar 0) (tCons (tC (.int 2)) tNil))) (tC (.int 0)))) (tRet (tCB (Evl.rListS K) (tCons (tVar 1) tNil))) tNext) (tRet (tThen (tVar 1) (kTup K))))
theorem tm__law_as {k : Nat} {f : Addr} {cdv : Value} {A : Around} {outer : List Env} {s : Shared} {H : Hp} {E : XK} {s__law_next : DSp} (T : Txt mg) {k__law_next : Nat} (c__law_next : C8.Cal P w K mg base k__law_next "_law_next" (upSp K s__law_next) []) (hk__law_next : k__law_next ≤ k) (hr : Room k (A.deeper (envOfC "_law_as" (defScope st__law_as) s.heap.objs.size f cdv))) :
    PSs (cxOf CX0 P w K mg base N__law_as "_law_as" (defScope st__law_as) f cdv A outer s H E).nox (defBody st__law_as) (t__law_as K s__law_next) := by
  have nd := sc__law_as.nd
  exact (pss_cons (ps_if (pt_cmpR (op_eqX (hu64 hr)) (C8.pe_c c__law_next hr hk__law_next rfl (pa_cons (pv 0) (pa_cons pe_int pa_nil))) pe_int (nomark _)) (pss_one (ps_ret (pe_callTy call_listX (by rfl) T.f_list (by decide +kernel) (pa_cons (pv 1) pa_nil)))) pss_nil)
    (pss_one (ps_ret (pe_tupleOf rfl T.f_tuple (pv 1)))))
/-! ### _law_same -/
abbrev st__law_same : Stmt := top 29
abbrev N__law_same : List Str := ["found", "due", "one", "other"]
theorem sc__law_same : FnScope N__law_same ["found", "due"] (defScope st__law_same) := ⟨rfl, rfl, rfl, by decide +kernel, rfl, by decide +kernel, by decide +kernel⟩
abbrev t__law_same_1 (K : PySem.W.Frag) (s__law_same : DSp) : TS :=
    (tRet (tCB (rAll K) (tCons (tLc (RZ.iZipA K (tCons (tVar 0) (tCons (tVar 1) tNil))) (gTup K 2 (gCons (gName 2) (gCons (gName 3) gNil))) tYes (tCall (upSp K s__law_same) [] E0 (tCons (tVar 2) (tCons (tVar 3) tNil))) [2, 3]) tNil)))
abbrev t__law_same_2 (K : PySem.W.Frag) (s__law_same : DSp) : TS :=
    (tSeq (tIfS (tOr (tNot (tTru K (tCB (rIsiX K) (tCons (tVar 0) (tCons (tC (.ty "tuple")) tNil))))) (tTest (tOp (rNeX K) (tCB (rLenX K) (tCons (tVar 0) tNil)) (tCB (rLenX K) (tCons (tVar 1) tNil))))) (tRet (tC (.bl false))) tNext) (t__law_same_1 K s__law_same))
abbrev t__law_same_3 (K : PySem.W.Frag) (s__law_same : DSp) : TS :=
    (tRet (tAndT K (tCB (rIsiX K) (tCons (tVar 0) (tCons (tC (.ty "int")) tNil))) (tAndT K (tNotT K (tCB (rIsiX K) (tCons (tVar 0) (tCons (tC (.ty "bool")) tNil)))) (tOp (rEqX K) (tVar 0) (tVar 1)))))
abbrev t__law_same_4 (K : PySem.W.Frag) (s__law_same : DSp) : TS :=
    (tSeq (tIfS (tTru K (tCB (rIsiX K) (tCons (tVar 1) (tCons (tC (.ty "tuple")) tNil)))) (t__law_same_2 K s__law_same) tNext) (t__law_same_3 K s__law_same))
abbrev t__law_same (K : PySem.W.Frag) (s__law_same : DSp) : TS :=
    (tSeq (tIfS (tTest (tOp rIsN (tVar 1) (tC .non))) (tRet (tOp rIsN (tVar 0) (tC .non))) tNext) (t__law_same_4 K s__law_same))
theorem tm__law_same {k : Nat} {f : Addr} {cdv : Value} {A : Around} {outer : List Env} {s : Shared} {H : Hp} {E : XK} {s__law_same : DSp} (T : Txt mg) {k__law_same : Nat} (c__law_same : C8.Cal P w K mg base k__law_same "_law_same" (upSp K s__law_same) []) (hk__law_same : k__law_same ≤ k) (hr : Room k (A.deeper (envOfC "_law_same" (defScope st__law_same) s.heap.objs.size f cdv))) :
    PSs (cxOf CX0 P w K mg base N__law_same "_law_same" (defScope st__law_same) f cdv A outer s H E).nox (defBody st__law_same) (t__law_same K s__law_same) := by
  have nd := sc__law_same.nd
  exact (pss_cons (ps_if (pt_cmpR op_isN1 (pv 1) pe_non (nomark _)) (pss_one (ps_ret (pe_cmpR op_isN1 (pv 0) pe_non (nomark _)))) pss_nil)
    (pss_cons (ps_if (pt_truth (pe_callB call_isiX (by rfl) T.f_isinstance (by decide +kernel) (pa_cons (pv 1) (pa_cons (pe_bltn rfl T.f_tuple (by decide +kernel) rfl) pa_nil))) (fun _ => rfl)) (pss_cons (ps_if (PW.pt (pw_or (pt_not (pt_truth (pe_callB call_isiX (by rfl) T.f_isinstance (by decide +kernel) (pa_cons (pv 0) (pa_cons (pe_bltn rfl T.f_tuple (by decide +kernel) rfl) pa_nil))) (fun _ => rfl))) (pw_or1 (pt_cmpR (op_neX (hu64 hr)) (pe_callB call_lenX (by rfl) T.f_len (by decide +kernel) (pa_cons (pv 0) pa_nil)) (pe_callB call_lenX (by rfl) T.f_len (by decide +kernel) (pa_cons (pv 1) pa_nil)) (nomark _))))) (pss_one (ps_ret pe_bl)) pss_nil)
    (pss_one (ps_ret (pe_callB (cr_all rfl) (by rfl) T.f_all (by decide +kernel) (pa_cons (pe_lc (own := [("one", 2), ("other", 3)]) (g := (gTup K 2 (gCons (gName 2) (gCons (gName 3) gNil)))) (tt := tYes) rfl nd (RZ.pi_zipA (by rfl) T.f_zip (pa_cons (pv 0) (pa_cons (pv 1) pa_nil))) (blkOk_by (by first | decide +kernel | kernel_rfl)) (fun _ _ _ _ _ => (pg_tup rfl (pgs_cons (pg_name (i := 2) nd rfl (by first | exact Or.inl rfl | exact Or.inr rfl)) (pgs_cons (pg_name (i := 3) nd rfl (by first | exact Or.inl rfl | exact Or.inr rfl)) pgs_nil)))) (fun _ _ _ _ _ => pts_nil) (fun _ _ _ _ _ => (C8.pe_c c__law_same hr hk__law_same rfl (pa_cons (pv 2) (pa_cons (pv 3) pa_nil))))) pa_nil))))) pss_nil)
    (pss_one (ps_ret (pe_andT (pe_callB call_isiX (by rfl) T.f_isinstance (by decide +kernel) (pa_cons (pv 0) (pa_cons (pe_bltn rfl T.f_int (by decide +kernel) rfl) pa_nil))) (pe_andT (pe_notT (pe_callB call_isiX (by rfl) T.f_isinstance (by decide +kernel) (pa_cons (pv 0) (pa_cons (pe_bltn rfl T.f_bool (by decide +kernel) rfl) pa_nil)))) (pe_one (pe_cmpR (op_eqX (hu64 hr)) (pv 0) (pv 1) (nomark _)))))))))
/-! ### _law_flat -/
abbrev st__law_flat : Stmt := top 30
abbrev N__law_flat : List Str := ["row", "one"]
theorem sc__law_flat : FnScope N__law_flat ["row"] (defScope st__law_flat) := ⟨rfl, rfl, rfl, by decide +kernel, rfl, by decide +kernel, by decide +kernel⟩
abbrev t__law_flat (K : PySem.W.Frag)  : TS :=
    (tRet (tThen (tLc (iSeq K (tVar 0)) (gName 1) tYes (tIf (tTest (tOp rIsN (tVar 1) (tC .non))) (tC .non) (tThen (tVar 1) (kTup K))) [1]) (kTup K)))
theorem tm__law_flat {k : Nat} {f : Addr} {cdv : Value} {A : Around} {outer : List Env} {s : Shared} {H : Hp} {E : XK}  (T : Txt mg)  (hr : Room k (A.deeper (envOfC "_law_flat" (defScope st__law_flat) s.heap.objs.size f cdv))) :
    PSs (cxOf CX0 P w K mg base N__law_flat "_law_flat" (defScope st__law_flat) f cdv A outer s H E).nox (defBody st__law_flat) (t__law_flat K ) := by
  have nd := sc__law_flat.nd
  exact (pss_one (ps_ret (pe_tupleOf rfl T.f_tuple (pe_lc (own := [("one", 1)]) (g := (gName 1)) (tt := tYes) rfl nd (pi_seqX (pv 0)) (blkOk_by (by first | decide +kernel | kernel_rfl)) (fun _ _ _ _ _ => (pg_name (i := 1) nd rfl (by first | exact Or.inl rfl | exact Or.inr rfl))) (fun _ _ _ _ _ => pts_nil) (fun _ _ _ _ _ => (pe_ifExp (pt_cmpR op_isN1 (pv 1) pe_non (nomark _)) pe_non (pe_tupleOf rfl T.f_tuple (pv 1))))))))
/-! ### _law_emptied -/
abbrev st__law_emptied : Stmt := top 31
abbrev N__law_emptied : List Str := ["row", "one"]
theorem sc__law_emptied : FnScope N__law_emptied ["row"] (defScope st__law_emptied) := ⟨rfl, rfl, rfl, by decide +kernel, rfl, by decide +kernel, by decide +kernel⟩
abbrev t__law_emptied_1 (K : PySem.W.Frag)  : TS :=
    (tIfS (tTru K (tCB (rIsiX K) (tCons (tVar 1) (tCons (tC (.ty "list")) tNil)))) (tDrop (tBM0 K "list" rClear (tVar 1))) tNext)
abbrev t__law_emptied_2 (K : PySem.W.Frag)  : TS :=
    (tIfS (tTru K (tCB (rIsiX K) (tCons (tVar 0) (tCons (tC (.ty "list")) tNil)))) (tDrop (tBM0 K "list" rClear (tVar 0))) tNext)
abbrev t__law_emptied (K : PySem.W.Frag)  : TS :=
    (tSeq (tFor (iSeq K (tVar 0)) (gName 1)
    (t__law_emptied_1 K )) (t__law_emptied_2 K ))
theorem tm__law_emptied {k : Nat} {f : Addr} {cdv : Value} {A : Around} {outer : List Env} {s : Shared} {H : Hp} {E : XK}  (T : Txt mg)  (hr : Room k (A.deeper (envOfC "_law_emptied" (defScope st__law_emptied) s.heap.objs.size f cdv))) :
    PSs (cxOf CX0 P w K mg base N__law_emptied "_law_emptied" (defScope st__law_emptied) f cdv A outer s H E).nox (defBody st__law_emptied) (t__law_emptied K ) := by
  have nd := sc__law_emptied.nd
  exact (pss_cons (ps_for PassesOwn.never rfl (pi_seqX (pv 0)) (pg_name (i := 1) nd rfl (by first | exact Or.inl rfl | exact Or.inr rfl))
    (pss_one (ps_if (pt_truth (pe_callB call_isiX (by rfl) T.f_isinstance (by decide +kernel) (pa_cons (pv 1) (pa_cons (pe_bltn rfl T.f_list (by decide +kernel) rfl) pa_nil))) (fun _ => rfl)) (pss_one (ps_expr (pe_bm0 PySem.F.plainAttrs_list PySem.F.slot_list_clear PySem.F.type_list_clear mt_clear (pv 1)))) pss_nil)))
    (pss_one (ps_if (pt_truth (pe_callB call_isiX (by rfl) T.f_isinstance (by decide +kernel) (pa_cons (pv 0) (pa_cons (pe_bltn rfl T.f_list (by decide +kernel) rfl) pa_nil))) (fun _ => rfl)) (pss_one (ps_expr (pe_bm0 PySem.F.plainAttrs_list PySem.F.slot_list_clear PySem.F.type_list_clear mt_clear (pv 0)))) pss_nil)))
/-! ### _law_one -/
abbrev st__law_one : Stmt := top 32
abbrev N__law_one : List Str := ["pool", "many", "last", "ways", "rooms", "waits", "due", "handed", "some", "found", "again", "row", "net", "steady", "way", "one"]
theorem sc__law_one : FnScope N__law_one ["pool"] (defScope st__law_one) := ⟨rfl, rfl, rfl, by decide +kernel, rfl, by decide +kernel, by decide +kernel⟩
abbrev t__law_one_1 (K : PySem.W.Frag) (s__law_next : DSp) (s__law_roads : DSp) (s__law_rows : DSp) (s__law_flat : DSp) (s__law_as : DSp) (s_made_calendar : DSp) (s__law_same : DSp) (s__law_emptied : DSp) (s__law_wide : DSp) (s_net_calendar : DSp) : TS :=
    (tDrop (tBM K "list" rAppend (tVar 7) (tCons (tCall (upSp K s__law_as) [] E0 (tCons (tVar 0) (tCons (tLc (iSeq K (tVar 8)) (gName 15) tYes (tIf (tTest (tOp rIsN (tVar 15) (tC .non))) (tC .non) (tCall (upSp K s__law_as) [] E0 (tCons (tVar 0) (tCons (tVar 15) tNil)))) [15]) tNil))) tNil)))
abbrev t__law_one_2 (K : PySem.W.Frag) (s__law_next : DSp) (s__law_roads : DSp) (s__law_rows : DSp) (s__law_flat : DSp) (s__law_as : DSp) (s_made_calendar : DSp) (s__law_same : DSp) (s__law_emptied : DSp) (s__law_wide : DSp) (s_net_calendar : DSp) : TS :=
    (tDrop (tCall (upSp K s__law_emptied) [] E0 (tCons (tVar 11) tNil)))
abbrev t__law_one_3 (K : PySem.W.Frag) (s__law_next : DSp) (s__law_roads : DSp) (s__law_rows : DSp) (s__law_flat : DSp) (s__law_as : DSp) (s_made_calendar : DSp) (s__law_same : DSp) (s__law_emptied : DSp) (s__law_wide : DSp) (s_net_calendar : DSp) : TS :=
    (tRet (tCall (upSp K s__law_same) [] E0 (tCons (tCall (upSp K s_net_calendar) [] E0 (tCons (tVar 12) (tCons (tVar 2) tNil))) (tCons (tTup (tCons (tVar 1) (tCons (tVar 2) (tCons (tOp (rIx K) (tVar 6) (tC (.int 2))) (tCons (tVar 13) (tCons (tOp (rMulX K) (tTup (tCons (tC .non) tNil)) (tVar 1)) tNil)))))) tNil))))
abbrev t__law_one_4 (K : PySem.W.Frag) (s__law_next : DSp) (s__law_roads : DSp) (s__law_rows : DSp) (s__law_flat : DSp) (s__law_as : DSp) (s_made_calendar : DSp) (s__law_same : DSp) (s__law_emptied : DSp) (s__law_wide : DSp) (s_net_calendar : DSp) : TS :=
    (tSeq (tAsg (tThen (tLc (iSeq K (tOp (rIx K) (tVar 12) (tC (.int 1)))) (gName 14) tYes (tOp (rMulX K) (tTup (tCons (tOp (rIx K) (tVar 14) (tC (.int 2))) tNil)) (tOp (rAddX K) (tVar 2) (tC (.int 1)))) [14]) (kTup K)) (gName 13)) (t__law_one_3 K s__law_next s__law_roads s__law_rows s__law_flat s__law_as s_made_calendar s__law_same s__law_emptied s__law_wide s_net_calendar))
abbrev t__law_one_5 (K : PySem.W.Frag) (s__law_next : DSp) (s__law_roads : DSp) (s__law_rows : DSp) (s__law_flat : DSp) (s__law_as : DSp) (s_made_calendar : DSp) (s__law_same : DSp) (s__law_emptied : DSp) (s__law_wide : DSp) (s_net_calendar : DSp) : TS :=
    (tSeq (tAsg (tTup (tCons (tVar 1) (tCons (tThen (tLc (iSeq K (tVar 3)) (gName 14) tYes (tTup (tCons (tOp (rIx K) (tVar 14) (tC (.int 0))) (tCons (tOp (rIx K) (tVar 14) (tC (.int 1))) (tCons (tCall (upSp K s__law_wide) [] E0 (tCons (tVar 0) (tCons (tOp (rAddX K) (tOp rIPow (tC (.int 10)) (tC (.int 9))) (tC (.int 1))) tNil))) (tCons (tOp (rIx K) (tVar 14) (tC (.int 2))) tNil))))) [14]) (kTup K)) tNil))) (gName 12)) (t__law_one_4 K s__law_next s__law_roads s__law_rows s__law_flat s__law_as s_made_calendar s__law_same s__law_emptied s__law_wide s_net_calendar))
abbrev t__law_one_6 (K : PySem.W.Frag) (s__law_next : DSp) (s__law_roads : DSp) (s__law_rows : DSp) (s__law_flat : DSp) (s__law_as : DSp) (s_made_calendar : DSp) (s__law_same : DSp) (s__law_emptied : DSp) (s__law_wide : DSp) (s_net_calendar : DSp) : TS :=
    (tSeq (tIfS (tOr (tNot (tTru K (tCall (upSp K s__law_same) [] E0 (tCons (tVar 9) (tCons (tVar 6) tNil))))) (tNot (tTru K (tCall (upSp K s__law_same) [] E0 (tCons (tVar 10) (tCons (tVar 6) tNil)))))) (tRet (tC (.bl false))) tNext) (t__law_one_5 K s__law_next s__law_roads s__law_rows s__law_flat s__law_as s_made_calendar s__law_same s__law_emptied s__law_wide s_net_calendar))
abbrev t__law_one_7 (K : PySem.W.Frag) (s__law_next : DSp) (s__law_roads : DSp) (s__law_rows : DSp) (s__law_flat : DSp) (s__law_as : DSp) (s_made_calendar : DSp) (s__law_same : DSp) (s__law_emptied : DSp) (s__law_wide : DSp) (s_net_calendar : DSp) : TS :=
    (tSeq (tFor (iSeq K (tVar 7)) (gName 11)
    (t__law_one_2 K s__law_next s__law_roads s__law_rows s__law_flat s__law_as s_made_calendar s__law_same s__law_emptied s__law_wide s_net_calendar)) (t__law_one_6 K s__law_next s__law_roads s__law_rows s__law_flat s__law_as s_made_calendar s__law_same s__law_emptied s__law_wide s_net_calendar))
abbrev t__law_one_8 (K : PySem.W.Frag) (s__law_next : DSp) (s__law_roads : DSp) (s__law_rows : DSp) (s__law_flat : DSp) (s__law_as : DSp) (s_made_calendar : DSp) (s__law_same : DSp) (s__law_emptied : DSp) (s__law_wide : DSp) (s_net_calendar : DSp) : TS :=
    (tSeq (tAsg (tCall (upSp K s_made_calendar) [] E0 (tCons (tVar 1) (tCons (tVar 2) (tCons (tOp (rIx K) (tVar 6) (tC (.int 2))) (tCons (tOp (rIx K) (tVar 6) (tC (.int 3))) (tCons (tOp (rIx K) (tVar 6) (tC (.int 4))) tNil)))))) (gName 10)) (t__law_one_7 K s__law_next s__law_roads s__law_rows s__law_flat s__law_as s_made_calendar s__law_same s__law_emptied s__law_wide s_net_calendar))
abbrev t__law_one_9 (K : PySem.W.Frag) (s__law_next : DSp) (s__law_roads : DSp) (s__law_rows : DSp) (s__law_flat : DSp) (s__law_as : DSp) (s_made_calendar : DSp) (s__law_same : DSp) (s__law_emptied : DSp) (s__law_wide : DSp) (s_net_calendar : DSp) : TS :=
    (tSeq (tIfS (tOr (tNot (tTru K (tCall (upSp K s__law_same) [] E0 (tCons (tVar 9) (tCons (tVar 6) tNil))))) (tTest (tOp (rNeX K) (tLc (iSeq K (tVar 7)) (gName 11) tYes (tCall (upSp K s__law_flat) [] E0 (tCons (tVar 11) tNil)) [11]) (tCB (Evl.rListS K) (tCons (L2.tSl (rSlX K) (tVar 6) (tPart (tC (.int 2))) tNoPart) tNil))))) (tRet (tC (.bl false))) tNext) (t__law_one_8 K s__law_next s__law_roads s__law_rows s__law_flat s__law_as s_made_calendar s__law_same s__law_emptied s__law_wide s_net_calendar))
abbrev t__law_one_10 (K : PySem.W.Frag) (s__law_next : DSp) (s__law_roads : DSp) (s__law_rows : DSp) (s__law_flat : DSp) (s__law_as : DSp) (s_made_calendar : DSp) (s__law_same : DSp) (s__law_emptied : DSp) (s__law_wide : DSp) (s_net_calendar : DSp) : TS :=
    (tSeq (tAsg (tCall (upSp K s_made_calendar) [] E0 (tCons (tVar 1) (tCons (tVar 2) (tCons (tOp (rIx K) (tVar 7) (tC (.int 0))) (tCons (tOp (rIx K) (tVar 7) (tC (.int 1))) (tCons (tOp (rIx K) (tVar 7) (tC (.int 2))) tNil)))))) (gName 9)) (t__law_one_9 K s__law_next s__law_roads s__law_rows s__law_flat s__law_as s_made_calendar s__law_same s__law_emptied s__law_wide s_net_calendar))
abbrev t__law_one_11 (K : PySem.W.Frag) (s__law_next : DSp) (s__law_roads : DSp) (s__law_rows : DSp) (s__law_flat : DSp) (s__law_as : DSp) (s_made_calendar : DSp) (s__law_same : DSp) (s__law_emptied : DSp) (s__law_wide : DSp) (s_net_calendar : DSp) : TS :=
    (tSeq (tFor (iSeq K (tLst (tCons (tVar 3) (tCons (tVar 4) (tCons (tVar 5) tNil))))) (gName 8)
    (t__law_one_1 K s__law_next s__law_roads s__law_rows s__law_flat s__law_as s_made_calendar s__law_same s__law_emptied s__law_wide s_net_calendar)) (t__law_one_10 K s__law_next s__law_roads s__law_rows s__law_flat s__law_as s_made_calendar s__law_same s__law_emptied s__law_wide s_net_calendar))
abbrev t__law_one_12 (K : PySem.W.Frag) (s__law_next : DSp) (s__law_roads : DSp) (s__law_rows : DSp) (s__law_flat : DSp) (s__law_as : DSp) (s_made_calendar : DSp) (s__law_same : DSp) (s__law_emptied : DSp) (s__law_wide : DSp) (s_net_calendar : DSp) : TS :=
    (tSeq (tAsg (tTup (tCons (tVar 1) (tCons (tVar 2) (tCons (tThen (tVar 3) (kTup K)) (tCons (tCall (upSp K s__law_flat) [] E0 (tCons (tVar 4) tNil)) (tCons (tCall (upSp K s__law_flat) [] E0 (tCons (tVar 5) tNil)) tNil)))))) (gName 6)) (tSeq (tAsg (tLst tNil) (gName 7)) (t__law_one_11 K s__law_next s__law_roads s__law_rows s__law_flat s__law_as s_made_calendar s__law_same s__law_emptied s__law_wide s_net_calendar)))
abbrev t__law_one_13 (K : PySem.W.Frag) (s__law_next : DSp) (s__law_roads : DSp) (s__law_rows : DSp) (s__law_flat : DSp) (s__law_as : DSp) (s_made_calendar : DSp) (s__law_same : DSp) (s__law_emptied : DSp) (s__law_wide : DSp) (s_net_calendar : DSp) : TS :=
    (tSeq (tAsg (tOp (rAddX K) (tOp (rAddX K) (tLst (tCons (tC .non) tNil)) (tVar 5)) (tLst (tCons (tC .non) tNil))) (gName 5)) (t__law_one_12 K s__law_next s__law_roads s__law_rows s__law_flat s__law_as s_made_calendar s__law_same s__law_emptied s__law_wide s_net_calendar))
abbrev t__law_one_14 (K : PySem.W.Frag) (s__law_next : DSp) (s__law_roads : DSp) (s__law_rows : DSp) (s__law_flat : DSp) (s__law_as : DSp) (s_made_calendar : DSp) (s__law_same : DSp) (s__law_emptied : DSp) (s__law_wide : DSp) (s_net_calendar : DSp) : TS :=
    (tSeq (tAsg (tLc (iSeq K (tCall (upSp K s__law_rows) [] E0 (tCons (tVar 0) (tCons (tOp rISub (tVar 1) (tC (.int 2))) (tCons (tVar 2) tNil))))) (gName 11) tYes (tOp (rIx K) (tLst (tCons (tC .non) (tCons (tVar 11) tNil))) (tCB rIntX (tCons (tOp rIGt (tCall (upSp K s__law_next) [] E0 (tCons (tVar 0) (tCons (tC (.int 3)) tNil))) (tC (.int 0))) tNil))) [11]) (gName 5)) (t__law_one_13 K s__law_next s__law_roads s__law_rows s__law_flat s__law_as s_made_calendar s__law_same s__law_emptied s__law_wide s_net_calendar))
abbrev t__law_one_15 (K : PySem.W.Frag) (s__law_next : DSp) (s__law_roads : DSp) (s__law_rows : DSp) (s__law_flat : DSp) (s__law_as : DSp) (s_made_calendar : DSp) (s__law_same : DSp) (s__law_emptied : DSp) (s__law_wide : DSp) (s_net_calendar : DSp) : TS :=
    (tSeq (tAsg (tCall (upSp K s__law_rows) [] E0 (tCons (tVar 0) (tCons (tCB (rLenX K) (tCons (tVar 3) tNil)) (tCons (tOp (rAddX K) (tVar 2) (tC (.int 1))) tNil)))) (gName 4)) (t__law_one_14 K s__law_next s__law_roads s__law_rows s__law_flat s__law_as s_made_calendar s__law_same s__law_emptied s__law_wide s_net_calendar))
abbrev t__law_one_16 (K : PySem.W.Frag) (s__law_next : DSp) (s__law_roads : DSp) (s__law_rows : DSp) (s__law_flat : DSp) (s__law_as : DSp) (s_made_calendar : DSp) (s__law_same : DSp) (s__law_emptied : DSp) (s__law_wide : DSp) (s_net_calendar : DSp) : TS :=
    (tSeq (tAsg (tCall (upSp K s__law_roads) [] E0 (tCons (tVar 0) (tCons (tVar 1) tNil))) (gName 3)) (t__law_one_15 K s__law_next s__law_roads s__law_rows s__law_flat s__law_as s_made_calendar s__law_same s__law_emptied s__law_wide s_net_calendar))
abbrev t__law_one_17 (K : PySem.W.Frag) (s__law_next : DSp) (s__law_roads : DSp) (s__law_rows : DSp) (s__law_flat : DSp) (s__law_as : DSp) (s_made_calendar : DSp) (s__law_same : DSp) (s__law_emptied : DSp) (s__law_wide : DSp) (s_net_calendar : DSp) : TS :=
    (tSeq (tAsg (tCall (upSp K s__law_next) [] E0 (tCons (tVar 0) (tCons (tC (.int 13)) tNil))) (gName 2)) (t__law_one_16 K s__law_next s__law_roads s__law_rows s__law_flat s__law_as s_made_calendar s__law_same s__law_emptied s__law_wide s_net_calendar))
abbrev t__law_one (K : PySem.W.Frag) (s__law_next : DSp) (s__law_roads : DSp) (s__law_rows : DSp) (s__law_flat : DSp) (s__law_as : DSp) (s_made_calendar : DSp) (s__law_same : DSp) (s__law_emptied : DSp) (s__law_wide : DSp) (s_net_calendar : DSp) : TS :=
    (tSeq (tAsg (tOp (rAddX K) (tC (.int 2)) (tCall (upSp K s__law_next) [] E0 (tCons (tVar 0) (tCons (tC (.int 5)) tNil)))) (gName 1)) (t__law_one_17 K s__law_next s__law_roads s__law_rows s__law_flat s__law_as s_made_calendar s__law_same s__law_emptied s__law_wide s_net_calendar))
theorem tm__law_one {k : Nat} {f : Addr} {cdv : Value} {A : Around} {outer : List Env} {s : Shared} {H : Hp} {E : XK} {s__law_next : DSp} {s__law_roads : DSp} {s__law_rows : DSp} {s__law_flat : DSp} {s__law_as : DSp} {s_made_calendar : DSp} {s__law_same : DSp} {s__law_emptied : DSp} {s__law_wide : DSp} {s_net_calendar : DSp} (T : Txt mg) {k__law_next : Nat} (c__law_next : C8.Cal P w K mg base k__law_next "_law_next" (upSp K s__law_next) []) (hk__law_next : k__law_next ≤ k) {k__law_roads : Nat} (c__law_roads : C8.Cal P w K mg base k__law_roads "_law_roads" (upSp K s__law_roads) []) (hk__law_roads : k__law_roads ≤ k) {k__law_rows : Nat} (c__law_rows : C8.Cal P w K mg base k__law_rows "_law_rows" (upSp K s__law_rows) []) (hk__law_rows : k__law_rows ≤ k) {k__law_flat : Nat} (c__law_flat : C8.Cal P w K mg base k__law_flat "_law_flat" (upSp K s__law_flat) []) (hk__law_flat : k__law_flat ≤ k) {k__law_as : Nat} (c__law_as : C8.Cal P w K mg base k__law_as "_law_as" (upSp K s__law_as) []) (hk__law_as : k__law_as ≤ k) {k_made_calendar : Nat} (c_made_calendar : C8.Cal P w K mg base k_made_calendar "made_calendar" (upSp K s_made_calendar) []) (hk_made_calendar : k_made_calendar ≤ k) {k__law_same : Nat} (c__law_same : C8.Cal P w K mg base k__law_same "_law_same" (upSp K s__law_same) []) (hk__law_same : k__law_same ≤ k) {k__law_emptied : Nat} (c__law_emptied : C8.Cal P w K mg base k__law_emptied "_law_emptied" (upSp K s__law_emptied) []) (hk__law_emptied : k__law_emptied ≤ k) {k__law_wide : Nat} (c__law_wide : C8.Cal P w K mg base k__law_wide "_law_wide" (upSp K s__law_wide) []) (hk__law_wide : k__law_wide ≤ k) {k_net_calendar : Nat} (c_net_calendar : C8.Cal P w K mg base k_net_calendar "net_calendar" (upSp K s_net_calendar) []) (hk_net_calendar : k_net_calendar ≤ k) (hr : Room k (A.deeper (envOfC "_law_one" (defScope st__law_one) s.heap.objs.size f cdv))) :
    PSs (cxOf CX0 P w K mg base N__law_one "_law_one" (defScope st__law_one) f cdv A outer s H E).nox (defBody st__law_one) (t__law_one K s__law_next s__law_roads s__law_rows s__law_flat s__law_as s_made_calendar s__law_same s__law_emptied s__law_wide s_net_calendar) := by
  have nd := sc__law_one.nd
  exact (pss_cons (ps_set (i := 1) nd rfl (by first | exact Or.inl rfl | exact Or.inr rfl) (pe_op op_addX pe_int (C8.pe_c c__law_next hr hk__law_next rfl (pa_cons (pv 0) (pa_cons pe_int pa_nil)))))
    (pss_cons (ps_set (i := 2) nd rfl (by first | exact Or.inl rfl | exact Or.inr rfl) (C8.pe_c c__law_next hr hk__law_next rfl (pa_cons (pv 0) (pa_cons pe_int pa_nil))))
    (pss_cons (ps_set (i := 3) nd rfl (by first | exact Or.inl rfl | exact Or.inr rfl) (C8.pe_c c__law_roads hr hk__law_roads rfl (pa_cons (pv 0) (pa_cons (pv 1) pa_nil))))
    (pss_cons (ps_set (i := 4) nd rfl (by first | exact Or.inl rfl | exact Or.inr rfl) (C8.pe_c c__law_rows hr hk__law_rows rfl (pa_cons (pv 0) (pa_cons (pe_callB call_lenX (by rfl) T.f_len (by decide +kernel) (pa_cons (pv 3) pa_nil)) (pa_cons (pe_op op_addX (pv 2) pe_int) pa_nil)))))
    (pss_cons (ps_setLc (i := 5) (own := [("row", 11)]) (g := (gName 11)) (tt := tYes) (by rfl) nd rfl rfl (sw_true rfl rfl rfl (by decide +kernel)) (pi_seqX (C8.pe_c c__law_rows hr hk__law_rows rfl (pa_cons (pv 0) (pa_cons (pe_op op_subX (pv 1) pe_int) (pa_cons (pv 2) pa_nil))))) (blkOk_by (by first | decide +kernel | kernel_rfl)) (fun _ _ _ _ _ => (pg_name (i := 11) nd rfl (by first | exact Or.inl rfl | exact Or.inr rfl))) (fun _ _ _ _ _ => pts_nil) (fun _ _ _ _ _ => (pe_ix ix_seq (pe_lst (pa_cons pe_non (pa_cons (pv 11) pa_nil))) (pe_callTy call_intX (by rfl) T.f_int (by decide +kernel) (pa_cons (pe_cmpR op_gtX (C8.pe_c c__law_next hr hk__law_next rfl (pa_cons (pv 0) (pa_cons pe_int pa_nil))) pe_int (nomark _)) pa_nil)) (fun _ _ => rfl))))
    (pss_cons (ps_set (i := 5) nd rfl (by first | exact Or.inl rfl | exact Or.inr rfl) (pe_op op_addX (pe_op op_addX (pe_lst (pa_cons pe_non pa_nil)) (pv 5)) (pe_lst (pa_cons pe_non pa_nil))))
    (pss_cons (ps_set (i := 6) nd rfl (by first | exact Or.inl rfl | exact Or.inr rfl) (pe_tup (pa_cons (pv 1) (pa_cons (pv 2) (pa_cons (pe_tupleOf rfl T.f_tuple (pv 3)) (pa_cons (C8.pe_c c__law_flat hr hk__law_flat rfl (pa_cons (pv 4) pa_nil)) (pa_cons (C8.pe_c c__law_flat hr hk__law_flat rfl (pa_cons (pv 5) pa_nil)) pa_nil)))))))
    (pss_cons (ps_set (i := 7) nd rfl (by first | exact Or.inl rfl | exact Or.inr rfl) (pe_lst pa_nil))
    (pss_cons (ps_for PassesOwn.never rfl (pi_seqX (pe_lst (pa_cons (pv 3) (pa_cons (pv 4) (pa_cons (pv 5) pa_nil))))) (pg_name (i := 8) nd rfl (by first | exact Or.inl rfl | exact Or.inr rfl))
    (pss_one (ps_expr (pe_bm PySem.F.plainAttrs_list PySem.F.slot_list_append PySem.F.type_list_append mt_append (pv 7) (pa_cons (C8.pe_c c__law_as hr hk__law_as rfl (pa_cons (pv 0) (pa_cons (pe_lc (own := [("one", 15)]) (g := (gName 15)) (tt := tYes) rfl nd (pi_seqX (pv 8)) (blkOk_by (by first | decide +kernel | kernel_rfl)) (fun _ _ _ _ _ => (pg_name (i := 15) nd rfl (by first | exact Or.inl rfl | exact Or.inr rfl))) (fun _ _ _ _ _ => pts_nil) (fun _ _ _ _ _ => (pe_ifExp (pt_cmpR op_isN1 (pv 15) pe_non (nomark _)) pe_non (C8.pe_c c__law_as hr hk__law_as rfl (pa_cons (pv 0) (pa_cons (pv 15) pa_nil)))))) pa_nil))) pa_nil)))))
    (pss_cons (ps_set (i := 9) nd rfl (by first | exact Or.inl rfl | exact Or.inr rfl) (C8.pe_c c_made_calendar hr hk_made_calendar rfl (pa_cons (pv 1) (pa_cons (pv 2) (pa_cons (pe_ix ix_seq (pv 7) pe_int (fun _ _ => rfl)) (pa_cons (pe_ix ix_seq (pv 7) pe_int (fun _ _ => rfl)) (pa_cons (pe_ix ix_seq (pv 7) pe_int (fun _ _ => rfl)) pa_nil)))))))
    (pss_cons (ps_if (PW.pt (pw_or (pt_not (pt_truth (C8.pe_c c__law_same hr hk__law_same rfl (pa_cons (pv 9) (pa_cons (pv 6) pa_nil))) (fun _ => rfl))) (pw_or1 (pt_cmpR (op_neX (hu64 hr)) (pe_lc (own := [("row", 11)]) (g := (gName 11)) (tt := tYes) rfl nd (pi_seqX (pv 7)) (blkOk_by (by first | decide +kernel | kernel_rfl)) (fun _ _ _ _ _ => (pg_name (i := 11) nd rfl (by first | exact Or.inl rfl | exact Or.inr rfl))) (fun _ _ _ _ _ => pts_nil) (fun _ _ _ _ _ => (C8.pe_c c__law_flat hr hk__law_flat rfl (pa_cons (pv 11) pa_nil)))) (pe_callTy call_listX (by rfl) T.f_list (by decide +kernel) (pa_cons (pe_slice sl_X (pv 6) (po_some pe_int) po_none) pa_nil)) (nomark _))))) (pss_one (ps_ret pe_bl)) pss_nil)
    (pss_cons (ps_set (i := 10) nd rfl (by first | exact Or.inl rfl | exact Or.inr rfl) (C8.pe_c c_made_calendar hr hk_made_calendar rfl (pa_cons (pv 1) (pa_cons (pv 2) (pa_cons (pe_ix ix_seq (pv 6) pe_int (fun _ _ => rfl)) (pa_cons (pe_ix ix_seq (pv 6) pe_int (fun _ _ => rfl)) (pa_cons (pe_ix ix_seq (pv 6) pe_int (fun _ _ => rfl)) pa_nil)))))))
    (pss_cons (ps_for PassesOwn.never rfl (pi_seqX (pv 7)) (pg_name (i := 11) nd rfl (by first | exact Or.inl rfl | exact Or.inr rfl))
    (pss_one (ps_expr (C8.pe_c c__law_emptied hr hk__law_emptied rfl (pa_cons (pv 11) pa_nil)))))
    (pss_cons (ps_if (PW.pt (pw_or (pt_not (pt_truth (C8.pe_c c__law_same hr hk__law_same rfl (pa_cons (pv 9) (pa_cons (pv 6) pa_nil))) (fun _ => rfl))) (pw_or1 (pt_not (pt_truth (C8.pe_c c__law_same hr hk__law_same rfl (pa_cons (pv 10) (pa_cons (pv 6) pa_nil))) (fun _ => rfl)))))) (pss_one (ps_ret pe_bl)) pss_nil)
    (pss_cons (ps_set (i := 12) nd rfl (by first | exact Or.inl rfl | exact Or.inr rfl) (pe_tup (pa_cons (pv 1) (pa_cons (pe_tupleOf rfl T.f_tuple (pe_lc (own := [("way", 14)]) (g := (gName 14)) (tt := tYes) rfl nd (pi_seqX (pv 3)) (blkOk_by (by first | decide +kernel | kernel_rfl)) (fun _ _ _ _ _ => (pg_name (i := 14) nd rfl (by first | exact Or.inl rfl | exact Or.inr rfl))) (fun _ _ _ _ _ => pts_nil) (fun _ _ _ _ _ => (pe_tup (pa_cons (pe_ix ix_seq (pv 14) pe_int (fun _ _ => rfl)) (pa_cons (pe_ix ix_seq (pv 14) pe_int (fun _ _ => rfl)) (pa_cons (C8.pe_c c__law_wide hr hk__law_wide rfl (pa_cons (pv 0) (pa_cons (pe_op op_addX (pe_op op_powX pe_int pe_int) pe_int) pa_nil))) (pa_cons (pe_ix ix_seq (pv 14) pe_int (fun _ _ => rfl)) pa_nil)))))))) pa_nil))))
    (pss_cons (ps_set (i := 13) nd rfl (by first | exact Or.inl rfl | exact Or.inr rfl) (pe_tupleOf rfl T.f_tuple (pe_lc (own := [("way", 14)]) (g := (gName 14)) (tt := tYes) rfl nd (pi_seqX (pe_ix ix_seq (pv 12) pe_int (fun _ _ => rfl))) (blkOk_by (by first | decide +kernel | kernel_rfl)) (fun _ _ _ _ _ => (pg_name (i := 14) nd rfl (by first | exact Or.inl rfl | exact Or.inr rfl))) (fun _ _ _ _ _ => pts_nil) (fun _ _ _ _ _ => (pe_op op_mulX' (pe_tup (pa_cons (pe_ix ix_seq (pv 14) pe_int (fun _ _ => rfl)) pa_nil)) (pe_op op_addX (pv 2) pe_int))))))
    (pss_one (ps_ret (C8.pe_c c__law_same hr hk__law_same rfl (pa_cons (C8.pe_c c_net_calendar hr hk_net_calendar rfl (pa_cons (pv 12) (pa_cons (pv 2) pa_nil))) (pa_cons (pe_tup (pa_cons (pv 1) (pa_cons (pv 2) (pa_cons (pe_ix ix_seq (pv 6) pe_int (fun _ _ => rfl)) (pa_cons (pv 13) (pa_cons (pe_op op_mulX' (pe_tup (pa_cons pe_non pa_nil)) (pv 1)) pa_nil)))))) pa_nil)))))))))))))))))))))
/-! ### law -/
abbrev st_law : Stmt := top 33
abbrev N_law : List Str := ["script", "cell"]
theorem sc_law : FnScope N_law ["script"] (defScope st_law) := ⟨rfl, rfl, rfl, by decide +kernel, rfl, by decide +kernel, by decide +kernel⟩
abbrev t_law_1 (K : PySem.W.Frag) (s__law_one : DSp) (s__law_pool : DSp) : TS :=
    (tIfS (tNot (tTru K (tCall (upSp K s__law_one) [] E0 (tCons (tCall (upSp K s__law_pool) [] E0 (tCons (tVar 1) tNil)) tNil)))) (tRet (tC (.bl false))) tNext)
abbrev t_law (K : PySem.W.Frag) (s__law_one : DSp) (s__law_pool : DSp) : TS :=
    (tSeq (tFor (iSeq K (tOp (rAddX K) (tLst (tCons (tC (.int 0)) tNil)) (L2.tSl (rSlX K) (tVar 0) tNoPart (tPart (tC (.int 63)))))) (gName 1)
    (t_law_1 K s__law_one s__law_pool)) (tRet (tC (.bl true))))
theorem tm_law {k : Nat} {f : Addr} {cdv : Value} {A : Around} {outer : List Env} {s : Shared} {H : Hp} {E : XK} {s__law_one : DSp} {s__law_pool : DSp} (T : Txt mg) {k__law_one : Nat} (c__law_one : C8.Cal P w K mg base k__law_one "_law_one" (upSp K s__law_one) []) (hk__law_one : k__law_one ≤ k) {k__law_pool : Nat} (c__law_pool : C8.Cal P w K mg base k__law_pool "_law_pool" (upSp K s__law_pool) []) (hk__law_pool : k__law_pool ≤ k) (hr : Room k (A.deeper (envOfC "law" (defScope st_law) s.heap.objs.size f cdv))) :
    PSs (cxOf CX0 P w K mg base N_law "law" (defScope st_law) f cdv A outer s H E).nox (defBody st_law) (t_law K s__law_one s__law_pool) := by
  have nd := sc_law.nd
  exact (pss_cons (ps_for PassesOwn.never rfl (pi_seqX (pe_op op_addX (pe_lst (pa_cons pe_int pa_nil)) (pe_slice sl_X (pv 0) po_none (po_some pe_int)))) (pg_name (i := 1) nd rfl (by first | exact Or.inl rfl | exact Or.inr rfl))
    (pss_one (ps_if (pt_not (pt_truth (C8.pe_c c__law_one hr hk__law_one rfl (pa_cons (C8.pe_c c__law_pool hr hk__law_pool rfl (pa_cons (pv 1) pa_nil)) pa_nil)) (fun _ => rfl))) (pss_one (ps_ret pe_bl)) pss_nil)))
    (pss_one (ps_ret pe_bl)))
end
end Lw
set_option maxHeartbeats 400000
namespace Lw
open PySem PySem.Spec PyProof.Rows L2 DL
def tyP : PyData → String
  | .none => "NoneType" | .bool _ => "bool" | .int _ => "int" | .str _ => "str" | .list _ => "list" | .tuple _ => "tuple" | .dict _ => "dict"
theorem tyn_of {h : DH} {x : D} {p : PyData} (d : DPy h x p) : TyN h x (tyP p) := by
  cases d with
  | non => exact .non
  | bl => exact .bl _
  | int => exact .int _
  | str => exact .str _
  | tup => exact .tup _
  | lst l => exact .lst l
def isIntP : PyData → Bool | .int _ => true | .bool _ => true | _ => false
def isBoolP : PyData → Bool | .bool _ => true | _ => false
def isListP : PyData → Bool | .list _ => true | _ => false
def isTupleP : PyData → Bool | .tuple _ => true | _ => false
def isStrP : PyData → Bool | .str _ => true | _ => false
theorem kit_int : ∀ p : PyData, kitB (tyP p) "int" = some (isIntP p)
  | .none => (by decide +kernel : kitB "NoneType" "int" = some false)
  | .bool _ => (by decide +kernel : kitB "bool" "int" = some true)
  | .int _ => (by decide +kernel : kitB "int" "int" = some true)
  | .str _ => (by decide +kernel : kitB "str" "int" = some false)
  | .list _ => (by decide +kernel : kitB "list" "int" = some false)
  | .tuple _ => (by decide +kernel : kitB "tuple" "int" = some false)
  | .dict _ => (by decide +kernel : kitB "dict" "int" = some false)
theorem kit_bool : ∀ p : PyData, kitB (tyP p) "bool" = some (isBoolP p)
  | .none => (by decide +kernel : kitB "NoneType" "bool" = some false)
  | .bool _ => (by decide +kernel : kitB "bool" "bool" = some true)
  | .int _ => (by decide +kernel : kitB "int" "bool" = some false)
  | .str _ => (by decide +kernel : kitB "str" "bool" = some false)
  | .list _ => (by decide +kernel : kitB "list" "bool" = some false)
  | .tuple _ => (by decide +kernel : kitB "tuple" "bool" = some false)
  | .dict _ => (by decide +kernel : kitB "dict" "bool" = some false)
theorem kit_list : ∀ p : PyData, kitB (tyP p) "list" = some (isListP p)
  | .none => (by decide +kernel : kitB "NoneType" "list" = some false)
  | .bool _ => (by decide +kernel : kitB "bool" "list" = some false)
  | .int _ => (by decide +kernel : kitB "int" "list" = some false)
  | .str _ => (by decide +kernel : kitB "str" "list" = some false)
  | .list _ => (by decide +kernel : kitB "list" "list" = some true)
  | .tuple _ => (by decide +kernel : kitB "tuple" "list" = some false)
  | .dict _ => (by decide +kernel : kitB "dict" "list" = some false)
theorem kit_tuple : ∀ p : PyData, kitB (tyP p) "tuple" = some (isTupleP p)
  | .none => (by decide +kernel : kitB "NoneType" "tuple" = some false)
  | .bool _ => (by decide +kernel : kitB "bool" "tuple" = some false)
  | .int _ => (by decide +kernel : kitB "int" "tuple" = some false)
  | .str _ => (by decide +kernel : kitB "str" "tuple" = some false)
  | .list _ => (by decide +kernel : kitB "list" "tuple" = some false)
  | .tuple _ => (by decide +kernel : kitB "tuple" "tuple" = some true)
  | .dict _ => (by decide +kernel : kitB "dict" "tuple" = some false)
theorem kit_str : ∀ p : PyData, kitB (tyP p) "str" = some (isStrP p)
  | .none => (by decide +kernel : kitB "NoneType" "str" = some false)
  | .bool _ => (by decide +kernel : kitB "bool" "str" = some false)
  | .int _ => (by decide +kernel : kitB "int" "str" = some false)
  | .str _ => (by decide +kernel : kitB "str" "str" = some true)
  | .list _ => (by decide +kernel : kitB "list" "str" = some false)
  | .tuple _ => (by decide +kernel : kitB "tuple" "str" = some false)
  | .dict _ => (by decide +kernel : kitB "dict" "str" = some false)
local macro_rules | `(tactic| k_state_short () "kit") => `(tactic| first | exact kt_None_int | exact kt_bool_int | exact kt_int_int | exact kt_str_int | exact kt_list_int | exact kt_tuple_int | exact kt_None_bool | exact kt_bool_bool | exact kt_int_bool | exact kt_str_bool | exact kt_list_bool | exact kt_tuple_bool | exact kt_None_list | exact kt_bool_list | exact kt_int_list | exact kt_str_list | exact kt_list_list | exact kt_tuple_list | exact kt_None_tuple | exact kt_bool_tuple | exact kt_int_tuple | exact kt_str_tuple | exact kt_list_tuple | exact kt_tuple_tuple | exact kt_None_str | exact kt_bool_str | exact kt_int_str | exact kt_str_str | exact kt_list_str | exact kt_tuple_str | exact kit_int _ | exact kit_bool _ | exact kit_list _ | exact kit_tuple _ | exact kit_str _ | assumption)
local macro_rules | `(tactic| k_state_short () "look") => `(tactic| first | assumption | exact du_same | (refine (du_ne (by first | assumption | exact Ne.symm (by assumption))).trans ?_; k_state_short () "look"))
local macro_rules | `(tactic| k_state_short () "iss") => `(tactic| first | assumption | exact IsS.tup _ | exact IsS.lst (IsL.frz _) | exact IsS.lst (IsL.rd _) | exact IsS.lst (IsL.own (by k_state_short () "look")) )
local macro_rules | `(tactic| k_state_short () "isl") => `(tactic| first | assumption | exact IsL.frz _ | exact IsL.rd _ | exact IsL.own (by k_state_short () "look"))
local macro_rules | `(tactic| k_state_short () "ism") => `(tactic| first | exact IsM.frz _ | exact IsM.own (by k_state_short () "look"))
local macro_rules | `(tactic| k_state_short () "cmul") => `(tactic| first | exact Or.inl ⟨by omega, by omega⟩ | exact Or.inr ⟨by omega, by omega⟩)
local macro_rules | `(tactic| k_state_short () "tru") => `(tactic| first | exact Tru.bl _ | exact Tru.non | exact Tru.int _ | exact Tru.tup _ | exact Tru.lst (by k_state_short () "isl"))
local macro_rules | `(tactic| k_state_short () "tyn") => `(tactic| first | exact TyN.bl _ | exact TyN.non | exact TyN.int _ | exact TyN.str _ | exact TyN.tup _ | exact tyn_of (by assumption) | exact TyN.lst (by k_state_short () "isl"))
local macro_rules | `(tactic| k_state_short () "s1") => `(tactic| with_reducible first
  | refine s_seq ?_ | refine s_asg ?_ | refine s_if ?_ | refine s_ret ?_ | refine s_drop ?_ | refine s_retN ?_ | refine s_next ?_ | refine s_brk ?_ | refine s_cont ?_)
local macro_rules | `(tactic| k_state_short () "e1") => `(tactic| first
  | with_reducible refine e_op ?_ | ((with_reducible refine' e_var ?k1 ?_); (case k1 => rfl)) | with_reducible refine e_int ?_ | with_reducible refine e_bl ?_ | with_reducible refine e_non ?_ | with_reducible refine e_str ?_ | with_reducible refine e_ty ?_
  | with_reducible refine e_tup ?_ | (with_reducible refine e_isi2 ?_) | with_reducible refine e_cb ?_ | with_reducible refine a_cons ?_ | with_reducible refine a_nil ?_ | with_reducible refine e_call ?_ | with_reducible refine e_then ?_
  | with_reducible refine e_if ?_ | with_reducible refine e_andT ?_ | with_reducible refine e_orT ?_ | with_reducible refine e_notT ?_ | with_reducible refine e_chain ?_
  | with_reducible refine t_test ?_ | with_reducible refine t_tru ?_ | with_reducible refine t_not ?_ | with_reducible refine t_and ?_ | with_reducible refine t_or ?_ | with_reducible refine t_yes ?_ | with_reducible refine i_seq ?_ | with_reducible refine i_rng1 ?_ | with_reducible refine i_rng2 ?_)
local macro_rules | `(tactic| k_state_short () "r1") => `(tactic| first
  | ((with_reducible refine' r_ix ?k1 ?k2 ?_); (case k1 => k_state_short () "iss"); (case k2 => rfl))
  | with_reducible refine r_addI ?_ | with_reducible refine r_subI ?_ | with_reducible refine r_ltI ?_ | with_reducible refine r_leI ?_ | with_reducible refine r_gtI ?_ | with_reducible refine r_geI ?_ | with_reducible refine r_eqII ?_ | with_reducible refine r_neII ?_ | with_reducible refine r_isN ?_ | with_reducible refine r_notN ?_
  | ((with_reducible refine' r_modI ?k1 ?_); (case k1 => first | omega | decide)) | ((with_reducible refine' r_divI ?k1 ?k2 ?_); (case k1 => omega); (case k2 => omega)) | ((with_reducible refine' r_mulI ?k1 ?_); (case k1 => k_state_short () "cmul")) | ((with_reducible refine' r_powI ?k1 ?_); (case k1 => decide))
  | ((with_reducible refine' c_lenX ?k1 ?_); (case k1 => k_state_short () "iss")) | with_reducible refine c_absX ?_ | with_reducible refine c_maxX ?_ | with_reducible refine c_minX ?_ | with_reducible refine c_intX ?_
  | ((with_reducible refine' c_isi ?k1 ?k2 ?_); (case k1 => k_state_short () "tyn"); (case k2 => k_state_short () "kit"))
  | ((with_reducible refine' u_tuple ?k1 ?_); (case k1 => k_state_short () "iss"))
  | with_reducible refine g_name ?_ | with_reducible refine g_setL ?_ | ((with_reducible refine' g_tup ?k1 ?_); (case k1 => rfl)) | with_reducible refine g_cons ?_ | with_reducible refine g_nil ?_)
local macro_rules | `(tactic| k_state_short () "x1") => `(tactic| first
  | ((with_reducible refine' ⟨_, _, _, _, rfl, rfl, ?k1, ?k2, ?_⟩); (case k1 => k_state_short () "look"); (case k2 => rfl))
  | ((with_reducible refine' ⟨_, _, _, ?k1, ?k2, ?k3, ?_⟩); (case k1 => k_state_short () "tyn"); (case k2 => k_state_short () "kit"); (case k3 => k_state_short () "kit"))
  | ((with_reducible refine' ⟨_, rfl, ?k1, ?_⟩); (case k1 => with_reducible (refine And.intro ?_ ?_) <;> omega))
  | with_reducible refine ⟨_, rfl, ?_⟩
  | ((with_reducible refine' ⟨_, ?k1, ?_⟩); (case k1 => k_state_short () "tru"))
  | with_reducible refine And.intro (fun (_ : true = true) => ?_) (fun (e : true = false) => Bool.noConfusion e) | with_reducible refine And.intro (fun (e : false = true) => Bool.noConfusion e) (fun (_ : false = false) => ?_)
  | with_reducible refine And.intro (fun (e : true = false) => Bool.noConfusion e) (fun (_ : true = true) => ?_) | with_reducible refine And.intro (fun (_ : false = false) => ?_) (fun (e : false = true) => Bool.noConfusion e)
  | with_reducible refine And.intro (fun (e : (!true) = true) => (nt_t e).elim) (fun (_ : (!true) = false) => ?_) | with_reducible refine And.intro (fun (_ : (!false) = true) => ?_) (fun (e : (!false) = false) => (nf_f e).elim)
  | with_reducible refine And.intro (fun (_ : (!true) = false) => ?_) (fun (e : (!true) = true) => (nt_t e).elim) | with_reducible refine And.intro (fun (e : (!false) = false) => (nf_f e).elim) (fun (_ : (!false) = true) => ?_)
  | with_reducible refine @And.intro (_ = true → _) (_ = false → _) ?_ ?_ | with_reducible refine @And.intro (_ = false → _) (_ = true → _) ?_ ?_
  | (with_reducible refine And.intro ?k1 ?_; (case k1 => exact Nat.le_of_ble_eq_true rfl)))
local macro_rules | `(tactic| k_state_short () "gws") => `(tactic| first | exact gws_nil | (refine gws_cons gmono_name (gw_name (by decide)) ?_; k_state_short () "gws"))
local macro_rules | `(tactic| k_state_short () "gw") => `(tactic| first | exact gw_name (by decide) | (refine gw_tup ?_; k_state_short () "gws"))
local macro_rules | `(tactic| k_state_short () "d1") => `(tactic| first | k_state_short () "s1" | k_state_short () "e1" | k_state_short () "r1" | k_state_short () "x1")
local macro_rules | `(tactic| k_state_short () "d") => `(tactic| repeat k_state_short () "d1")
def PoolAt (h : DH) (p : Addr) : Prop := ∃ a b c : Int, h p = some (.lst [.int a, .int b, .int c])
/-- the pool may turn, new things may stand, the rest is as it was -/
def PoolStep (p : Addr) (h h' : DH) : Prop := (∀ a o, a ≠ p → h a = some o → h' a = some o) ∧ PoolAt h' p
theorem PoolStep.trans {p : Addr} {h h1 h2 : DH} (a : PoolStep p h h1) (b : PoolStep p h1 h2) : PoolStep p h h2 :=
  ⟨fun q o n e => b.1 q o n (a.1 q o n e), b.2⟩
theorem PoolStep.at {p : Addr} {h h1 : DH} (a : PoolStep p h h1) : PoolAt h1 p := a.2
theorem PoolStep.refl {p : Addr} {h : DH} (a : PoolAt h p) : PoolStep p h h := ⟨fun _ _ _ e => e, a⟩
theorem PoolStep.set {p : Addr} {h : DH} (a b c : Int) : PoolStep p h (dupd h p (.lst [.int a, .int b, .int c])) :=
  ⟨fun q o n e => by rw [du_ne n]; exact e, a, b, c, du_same⟩
theorem PoolStep.new {p q : Addr} {h h1 : DH} {o : DO} (a : PoolStep p h h1) (e : h q = none) (n : q ≠ p) : PoolStep p h (dupd h1 q o) :=
  ⟨fun b u nb eb => by rw [du_ne (dne_none eb e)]; exact a.1 b u nb eb, by obtain ⟨x, y, z, w⟩ := a.2; exact ⟨x, y, z, by rw [du_ne (Ne.symm n)]; exact w⟩⟩
theorem PoolAt.ne {p q : Addr} {h : DH} (a : PoolAt h p) (e : h q = none) : q ≠ p := by
  obtain ⟨x, y, z, w⟩ := a
  exact Ne.symm (dne_none w e)
theorem PoolAt.upd {p q : Addr} {h : DH} {o : DO} (a : PoolAt h p) (n : q ≠ p) : PoolAt (dupd h q o) p := by
  obtain ⟨x, y, z, w⟩ := a
  exact ⟨x, y, z, by rw [du_ne (Ne.symm n)]; exact w⟩
theorem PoolStep.drop {p q : Addr} {h h1 : DH} (a : PoolStep p h h1) (e : h q = none) (n : q ≠ p) : PoolStep p h (derase h1 q) :=
  ⟨fun b u nb eb => by unfold derase; rw [if_neg (dne_none eb e)]; exact a.1 b u nb eb, by obtain ⟨x, y, z, w⟩ := a.2; exact ⟨x, y, z, by unfold derase; rw [if_neg (Ne.symm n)]; exact w⟩⟩
/-- fresh now, fresh before -/
theorem PoolStep.back {p q : Addr} {h h1 : DH} (a : PoolStep p h h1) (e : h1 q = none) (n : q ≠ p) : h q = none := by
  cases z : h q with
  | none => rfl
  | some o => rw [a.1 q o n z] at e; cases e
def sp_next : DSp := fun ds h Q _ => ∃ (p : Addr) (base : Int), ds = [.ref p, .int base] ∧ PoolAt h p ∧ (0 < base ∧ base < 1073741824) ∧ ∀ d h', PoolStep p h h' → 0 ≤ d → d < base → Q (.int d) h'
theorem pr_next {K : PySem.W.Frag} : ∀ ds h QD QX, sp_next ds h QD QX → dB K (t__law_next K) N__law_next ds h QD := by
  rintro ds h QD QX ⟨p, base, rfl, ⟨a, b, c, hp⟩, ⟨hb0, hb1⟩, k⟩
  k_state_short () "d"
  · intro hb
    k_state_short () "d"
    exact k _ _ (.set _ _ _) (Int.emod_nonneg _ (by omega)) (Int.emod_lt_of_pos _ hb0)
  · intro hb
    k_state_short () "d"
    exact k _ _ (.set _ _ _) (Int.emod_nonneg _ (by omega)) (Int.emod_lt_of_pos _ hb0)
def sp_wide : DSp := fun ds h Q _ => ∃ (p : Addr) (base : Int), ds = [.ref p, .int base] ∧ PoolAt h p ∧ (0 < base) ∧ ∀ d h', PoolStep p h h' → 0 ≤ d → d < base → Q (.int d) h'
theorem pr_wide {K : PySem.W.Frag} : ∀ ds h QD QX, sp_wide ds h QD QX → dB K (t__law_wide K sp_next) N__law_wide ds h QD := by
  rintro ds h QD QX ⟨p, base, rfl, hp, hb0, k⟩
  k_state_short () "d"
  refine ⟨_, _, rfl, hp, by decide, fun d1 h1 s1 l1 u1 => ?_⟩
  k_state_short () "d"
  refine ⟨_, _, rfl, s1.at, by decide, fun d2 h2 s2 l2 u2 => ?_⟩
  k_state_short () "d"
  exact k _ _ (s1.trans s2) (Int.emod_nonneg _ (by omega)) (Int.emod_lt_of_pos _ hb0)
/-! ### what is handed in, as data -/
def numP : PyData → Bool
  | .int _ => true
  | _ => false
def sp_is_number : DSp := fun ds h Q _ => ∃ x p, ds = [x] ∧ DPy h x p ∧ Q (.bl (numP p)) h
theorem pr_is_number {K : PySem.W.Frag} : ∀ ds h QD QX, sp_is_number ds h QD QX → dB K (t_is_number K) N_is_number ds h QD := by
  rintro ds h QD QX ⟨x, p, rfl, hp, k⟩
  k_state_short () "d"
  · intro hb
    k_state_short () "d"
    cases p <;> first | exact k | cases hb
  · intro hb
    cases p <;> first | exact k | cases hb
def withinP (lo hi : Int) : PyData → Bool
  | .int i => decide (lo ≤ i) && decide (i ≤ hi)
  | _ => false
def sp_is_within : DSp := fun ds h Q _ => ∃ x p lo hi, ds = [x, .int lo, .int hi] ∧ DPy h x p ∧ Q (.bl (withinP lo hi p)) h
theorem dpy_int {h : DH} {x : D} {p : PyData} (d : DPy h x p) (e : numP p = true) : ∃ i, x = .int i ∧ p = .int i := by
  cases d <;> first | exact ⟨_, rfl, rfl⟩ | cases e
theorem within_no {lo hi : Int} {p : PyData} (e : numP p = false) : withinP lo hi p = false := by
  cases p <;> first | rfl | cases e
theorem pr_is_within {K : PySem.W.Frag} : ∀ ds h QD QX, sp_is_within ds h QD QX → dB K (t_is_within K sp_is_number) N_is_within ds h QD := by
  rintro ds h QD QX ⟨x, p, lo, hi, rfl, hp, k⟩
  k_state_short () "d"
  refine ⟨_, _, rfl, hp, ?_⟩
  k_state_short () "d"
  · intro hb
    obtain ⟨i, rfl, rfl⟩ := dpy_int hp hb
    k_state_short () "d"
    · intro hb2
      k_state_short () "d"
      have e : withinP lo hi (.int i) = decide (i ≤ hi) := by show (decide (lo ≤ i) && decide (i ≤ hi)) = _; rw [hb2, Bool.true_and]
      rw [e] at k
      exact k
    · intro hb2
      have e : withinP lo hi (.int i) = false := by show (decide (lo ≤ i) && decide (i ≤ hi)) = _; rw [hb2, Bool.false_and]
      rw [e] at k
      exact k
  · intro hb
    rw [within_no hb] at k
    rw [hb]
    exact k
/-- the things of a list or tuple -/
def seqP : PyData → Option (List PyData)
  | .list xs => some xs
  | .tuple xs => some xs
  | _ => none
def listedP (n : Int) (p : PyData) : Bool := match seqP p with
  | some xs => decide ((xs.length : Int) = n)
  | none => false
theorem dpys_len {h : DH} : ∀ {ds : List D} {ps : List PyData}, DPys h ds ps → ds.length = ps.length
  | _, _, .nil => rfl
  | _, _, .cons _ r => by rw [List.length_cons, List.length_cons, dpys_len r]
theorem dpy_seq {h : DH} {x : D} {p : PyData} (d : DPy h x p) {ps : List PyData} (e : seqP p = some ps) : ∃ ds, IsS h x ds ∧ DPys h ds ps := by
  cases d with
  | tup r => cases e; exact ⟨_, .tup _, r⟩
  | lst l r => cases e; exact ⟨_, .lst l, r⟩
  | _ => cases e
theorem seq_is {p : PyData} (e : (isListP p || isTupleP p) = true) : ∃ ps, seqP p = some ps := by
  cases p <;> first | exact ⟨_, rfl⟩ | cases e
theorem seq_isnt {p : PyData} (e : (isListP p || isTupleP p) = false) : seqP p = none := by
  cases p <;> first | rfl | cases e
def sp_is_listed : DSp := fun ds h Q _ => ∃ x p n, ds = [x, .int n] ∧ DPy h x p ∧ Q (.bl (listedP n p)) h
theorem listed_seq {n : Int} {p : PyData} {ps : List PyData} (e : seqP p = some ps) : listedP n p = decide ((ps.length : Int) = n) := by unfold listedP; rw [e]
theorem listed_no {n : Int} {p : PyData} (e : seqP p = none) : listedP n p = false := by unfold listedP; rw [e]
theorem pr_is_listed {K : PySem.W.Frag} : ∀ ds h QD QX, sp_is_listed ds h QD QX → dB K (t_is_listed K) N_is_listed ds h QD := by
  rintro ds h QD QX ⟨x, p, n, rfl, hp, k⟩
  k_state_short () "d"
  · intro hb
    obtain ⟨ps, e⟩ := seq_is hb
    obtain ⟨ds, l, r⟩ := dpy_seq hp e
    k_state_short () "d"
    rw [listed_seq e, ← dpys_len r] at k
    exact k
  · intro hb
    rw [listed_no (seq_isnt hb)] at k
    rw [hb]
    exact k
/-- a way of a calendar -/
def neP : PyData → PyData → Bool
  | .int i, .int j => !decide (i = j)
  | _, _ => false
def roadL (many : Int) : List PyData → Bool
  | [a, b, c] => withinP 0 (many - 1) a && (withinP 0 (many - 1) b && (neP a b && withinP 1 1000000 c))
  | _ => false
def roadP (many : Int) (p : PyData) : Bool := match seqP p with
  | some l => roadL many l
  | none => false
def sp_is_road : DSp := fun ds h Q _ => ∃ x p many, ds = [x, .int many] ∧ DPy h x p ∧ Q (.bl (roadP many p)) h
theorem within_num {lo hi : Int} {p : PyData} (e : withinP lo hi p = true) : ∃ i, p = .int i ∧ lo ≤ i ∧ i ≤ hi := by
  cases p <;> first | cases e | skip
  rename_i i
  have e2 : (decide (lo ≤ i) && decide (i ≤ hi)) = true := e
  rw [Bool.and_eq_true] at e2
  exact ⟨i, rfl, of_decide_eq_true e2.1, of_decide_eq_true e2.2⟩
theorem listed_len {n : Int} {p : PyData} (e : listedP n p = true) : ∃ ps, seqP p = some ps ∧ (ps.length : Int) = n := by
  unfold listedP at e
  cases q : seqP p with
  | none => rw [q] at e; cases e
  | some ps => rw [q] at e; exact ⟨ps, rfl, of_decide_eq_true e⟩
theorem road_no {many : Int} {p : PyData} (e : listedP 3 p = false) : roadP many p = false := by
  unfold roadP
  unfold listedP at e
  cases q : seqP p with
  | none => rfl
  | some ps =>
    rw [q] at e
    match ps, e with
    | [], _ => rfl
    | [_], _ => rfl
    | [_, _], _ => rfl
    | [_, _, _], e => cases e
    | _ :: _ :: _ :: _ :: _, _ => rfl
theorem bnf {b : Bool} (e : (!b) = false) : b = true := by cases b <;> first | rfl | cases e
theorem bnt {b : Bool} (e : (!b) = true) : b = false := by cases b <;> first | rfl | cases e
theorem dpy_three {h : DH} {x : D} {p : PyData} (d : DPy h x p) (e : listedP 3 p = true) : ∃ a b c pa pb pc, seqP p = some [pa, pb, pc] ∧ IsS h x [a, b, c] ∧ DPy h a pa ∧ DPy h b pb ∧ DPy h c pc := by
  obtain ⟨ps, e1, e2⟩ := listed_len e
  obtain ⟨ds, l, r⟩ := dpy_seq d e1
  match ps, e2, r with
  | [], e2, _ => simp at e2
  | [_], e2, _ => simp at e2
  | [_, _], e2, _ => simp at e2
  | [_, _, _], _, .cons a (.cons b (.cons c .nil)) => exact ⟨_, _, _, _, _, _, e1, l, a, b, c⟩
  | _ :: _ :: _ :: _ :: l, e2, _ => simp at e2; omega
theorem pr_is_road {K : PySem.W.Frag} : ∀ ds h QD QX, sp_is_road ds h QD QX → dB K (t_is_road K sp_is_listed sp_is_within) N_is_road ds h QD := by
  rintro ds h QD QX ⟨x, p, many, rfl, hp, k⟩
  k_state_short () "d"
  refine ⟨_, _, _, rfl, hp, ?_⟩
  k_state_short () "d"
  rotate_left
  · intro hb
    rw [road_no (bnt hb)] at k
    k_state_short () "d"
    exact k
  intro hb
  obtain ⟨a, b, c, pa, pb, pc, e, l, da, db, dc⟩ := dpy_three hp (bnf hb)
  have er : roadP many p = roadL many [pa, pb, pc] := by unfold roadP; rw [e]
  rw [er] at k
  clear er e
  change QD (.bl (withinP 0 (many - 1) pa && (withinP 0 (many - 1) pb && (neP pa pb && withinP 1 1000000 pc)))) h at k
  k_state_short () "d"
  refine ⟨_, _, _, _, rfl, da, ?_⟩
  k_state_short () "d"
  rotate_left
  · intro hb
    rw [bnt hb, Bool.false_and] at k
    k_state_short () "d"
    exact k
  intro hb
  rw [bnf hb, Bool.true_and] at k
  k_state_short () "d"
  refine ⟨_, _, _, _, rfl, db, ?_⟩
  k_state_short () "d"
  · intro hb
    rw [bnt hb, Bool.false_and] at k
    k_state_short () "d"
    exact k
  intro hb2
  rw [bnf hb2, Bool.true_and] at k
  obtain ⟨i, rfl, _, _⟩ := within_num (bnf hb)
  obtain ⟨j, rfl, _, _⟩ := within_num (bnf hb2)
  obtain ⟨i', rfl, ei⟩ := dpy_int da rfl
  obtain ⟨j', rfl, ej⟩ := dpy_int db rfl
  cases ei; cases ej
  change QD (.bl (!decide (i = j) && withinP 1 1000000 pc)) h at k
  k_state_short () "d"
  · intro hb
    rw [hb, Bool.true_and] at k
    k_state_short () "d"
    refine ⟨_, _, _, _, rfl, dc, ?_⟩
    exact k
  · intro hb
    rw [hb, Bool.false_and] at k
    rw [hb]
    exact k
/-- the things of a row, each by a test -/
theorem dpys_get {h : DH} : ∀ {ds : List D} {ps : List PyData} {i : Nat} {d : D}, DPys h ds ps → ds[i]? = some d → ∃ p, ps[i]? = some p ∧ DPy h d p
  | _, _, _, _, .nil, e => by simp at e
  | _, _, 0, _, .cons a _, e => by simp at e; subst e; exact ⟨_, rfl, a⟩
  | _, _, i + 1, _, .cons _ r, e => by
    obtain ⟨p, h1, h2⟩ := dpys_get (i := i) r (by simpa using e)
    exact ⟨p, by simpa using h1, h2⟩
theorem all_id (f : PyData → Bool) : ∀ ps : List PyData, (ps.map f).all id = ps.all f
  | [] => rfl
  | p :: ps => by rw [List.map_cons, List.all_cons, List.all_cons, all_id f ps]; rfl
def roadsP (many : Int) (p : PyData) : Bool := match seqP p with
  | some l => decide (l.length ≤ 12) && l.all (roadP many)
  | none => false
def sp_are_roads : DSp := fun ds h Q _ => ∃ x p many, ds = [x, .int many] ∧ DPy h x p ∧ Q (.bl (roadsP many p)) h
theorem pr_are_roads {K : PySem.W.Frag} : ∀ ds h QD QX, sp_are_roads ds h QD QX → dB K (t_are_roads K sp_is_road) N_are_roads ds h QD := by
  rintro ds h QD QX ⟨x, p, many, rfl, hp, k⟩
  k_state_short () "d"
  rotate_left
  · intro hb
    have e : roadsP many p = false := by unfold roadsP; rw [seq_isnt (bnt hb)]
    rw [e] at k
    k_state_short () "d"
    exact k
  intro hb
  obtain ⟨ps, e⟩ := seq_is (bnf hb)
  obtain ⟨ds, l, r⟩ := dpy_seq hp e
  have er : roadsP many p = (decide (ps.length ≤ 12) && ps.all (roadP many)) := by unfold roadsP; rw [e]
  rw [er] at k
  have hl := dpys_len r
  k_state_short () "d"
  · intro hb2
    have q := of_decide_eq_true hb2
    rw [show decide (ps.length ≤ 12) = false from decide_eq_false (by omega), Bool.false_and] at k
    k_state_short () "d"
    exact k
  · intro hb2
    have q := of_decide_eq_false hb2
    rw [show decide (ps.length ≤ 12) = true from decide_eq_true (by omega), Bool.true_and] at k
    k_state_short () "d"
    refine e_lcM (gw_name (by decide)) ?_
    k_state_short () "d"
    refine ⟨ds, l, by omega, l, (ps.map (roadP many)).map D.bl, by rw [List.length_map, List.length_map]; exact hl.symm, fun i d hd => ?_, ?_⟩
    · obtain ⟨q, h1, h2⟩ := dpys_get r hd
      k_state_short () "d"
      refine ⟨_, _, _, rfl, h2, rfl, ?_⟩
      rw [List.getElem?_map, List.getElem?_map, h1]; rfl
    · k_state_short () "d"
      refine c_all (.frz _) ?_
      rw [all_id]
      exact k
def hourlyP (n : Int) (p : PyData) : Bool := listedP n p && (match seqP p with
  | some l => l.all (withinP 0 1000000000)
  | none => false)
def sp_are_hourly : DSp := fun ds h Q _ => ∃ x p n, ds = [x, .int n] ∧ n ≤ 50000 ∧ DPy h x p ∧ Q (.bl (hourlyP n p)) h
theorem pr_are_hourly {K : PySem.W.Frag} : ∀ ds h QD QX, sp_are_hourly ds h QD QX → dB K (t_are_hourly K sp_is_listed sp_is_within) N_are_hourly ds h QD := by
  rintro ds h QD QX ⟨x, p, n, rfl, hn, hp, k⟩
  unfold hourlyP at k
  k_state_short () "d"
  refine ⟨_, _, _, rfl, hp, ?_⟩
  k_state_short () "d"
  rotate_left
  · intro hb
    rw [hb, Bool.false_and] at k
    rw [hb]
    exact k
  intro hb
  rw [hb, Bool.true_and] at k
  obtain ⟨ps, e, e2⟩ := listed_len hb
  obtain ⟨ds, l, r⟩ := dpy_seq hp e
  have hl := dpys_len r
  rw [e] at k
  k_state_short () "d"
  refine e_lcM (gw_name (by decide)) ?_
  k_state_short () "d"
  refine ⟨ds, l, by omega, l, (ps.map (withinP 0 1000000000)).map D.bl, by rw [List.length_map, List.length_map]; exact hl.symm, fun i d hd => ?_, ?_⟩
  · obtain ⟨q, h1, h2⟩ := dpys_get r hd
    k_state_short () "d"
    refine ⟨_, _, _, _, rfl, h2, rfl, ?_⟩
    rw [List.getElem?_map, List.getElem?_map, h1]; rfl
  · k_state_short () "d"
    refine c_all (.frz _) ?_
    rw [all_id]
    exact k
def roomsP (ways last : Int) (p : PyData) : Bool := listedP ways p && (match seqP p with
  | some l => l.all (hourlyP (last + 1))
  | none => false)
def sp_are_rooms : DSp := fun ds h Q _ => ∃ x p ways last, ds = [x, .int ways, .int last] ∧ ways ≤ 50000 ∧ last ≤ 100 ∧ DPy h x p ∧ Q (.bl (roomsP ways last p)) h
theorem pr_are_rooms {K : PySem.W.Frag} : ∀ ds h QD QX, sp_are_rooms ds h QD QX → dB K (t_are_rooms K sp_is_listed sp_are_hourly) N_are_rooms ds h QD := by
  rintro ds h QD QX ⟨x, p, ways, last, rfl, hn, hn2, hp, k⟩
  unfold roomsP at k
  k_state_short () "d"
  refine ⟨_, _, _, rfl, hp, ?_⟩
  k_state_short () "d"
  rotate_left
  · intro hb
    rw [hb, Bool.false_and] at k
    rw [hb]
    exact k
  intro hb
  rw [hb, Bool.true_and] at k
  obtain ⟨ps, e, e2⟩ := listed_len hb
  obtain ⟨ds, l, r⟩ := dpy_seq hp e
  have hl := dpys_len r
  rw [e] at k
  k_state_short () "d"
  refine e_lcM (gw_name (by decide)) ?_
  k_state_short () "d"
  refine ⟨ds, l, by omega, l, (ps.map (hourlyP (last + 1))).map D.bl, by rw [List.length_map, List.length_map]; exact hl.symm, fun i d hd => ?_, ?_⟩
  · obtain ⟨q, h1, h2⟩ := dpys_get r hd
    k_state_short () "d"
    refine ⟨_, _, _, rfl, by omega, h2, rfl, ?_⟩
    rw [List.getElem?_map, List.getElem?_map, h1]; rfl
  · k_state_short () "d"
    refine c_all (.frz _) ?_
    rw [all_id]
    exact k
/-! ### the calendar -/
def waitP (last : Int) (p : PyData) : Bool := (match p with | .none => true | _ => false) || hourlyP last p
def isNoneP (p : PyData) : Bool := match p with | .none => true | _ => false
theorem isNon_dpy {h : DH} {x : D} {p : PyData} (d : DPy h x p) : isNon x = isNoneP p := by
  cases d with
  | lst l r => cases l <;> rfl
  | _ => rfl
def waitsP (many last : Int) (p : PyData) : Bool := listedP many p && (match seqP p with
  | some l => isNoneP (l.getD 0 .none) && (isNoneP (l.getD (many - 1).toNat .none) && l.all (fun q => isNoneP q || hourlyP last q))
  | none => false)
def sp_are_waits : DSp := fun ds h Q _ => ∃ x p many last, ds = [x, .int many, .int last] ∧ (1 ≤ many ∧ many ≤ 50000) ∧ last ≤ 100 ∧ DPy h x p ∧ Q (.bl (waitsP many last p)) h
theorem atI_dpys {h : DH} {ds : List D} {ps : List PyData} (r : DPys h ds ps) {i : Int} (h0 : 0 ≤ i) (h1 : i < ps.length) : ∃ d, atI ds i = some d ∧ DPy h d (ps.getD i.toNat .none) := by
  have hl := dpys_len r
  have hi : i.toNat < ds.length := by omega
  have e : ds[i.toNat]? = some ds[i.toNat] := by simp [hi]
  obtain ⟨p, e1, e2⟩ := dpys_get r e
  refine ⟨_, ?_, by rw [List.getD_eq_getElem?_getD, e1]; exact e2⟩
  unfold atI
  have e3 : ixN ds.length i = some i.toNat := by
    unfold ixN
    rw [if_pos h0, if_pos (by omega)]
  rw [e3]
  exact e
end Lw
set_option maxHeartbeats 400000
namespace Lw
open PySem PySem.Spec PyProof.Rows L2 DL
local macro_rules | `(tactic| k_state_short () "kit") => `(tactic| first | exact kt_None_int | exact kt_bool_int | exact kt_int_int | exact kt_str_int | exact kt_list_int | exact kt_tuple_int | exact kt_None_bool | exact kt_bool_bool | exact kt_int_bool | exact kt_str_bool | exact kt_list_bool | exact kt_tuple_bool | exact kt_None_list | exact kt_bool_list | exact kt_int_list | exact kt_str_list | exact kt_list_list | exact kt_tuple_list | exact kt_None_tuple | exact kt_bool_tuple | exact kt_int_tuple | exact kt_str_tuple | exact kt_list_tuple | exact kt_tuple_tuple | exact kt_None_str | exact kt_bool_str | exact kt_int_str | exact kt_str_str | exact kt_list_str | exact kt_tuple_str | exact kit_int _ | exact kit_bool _ | exact kit_list _ | exact kit_tuple _ | exact kit_str _ | assumption)
local macro_rules | `(tactic| k_state_short () "look") => `(tactic| first | assumption | exact du_same | (refine (du_ne (by first | assumption | exact Ne.symm (by assumption))).trans ?_; k_state_short () "look"))
local macro_rules | `(tactic| k_state_short () "iss") => `(tactic| first | assumption | exact IsS.tup _ | exact IsS.lst (IsL.frz _) | exact IsS.lst (IsL.rd _) | exact IsS.lst (IsL.own (by k_state_short () "look")) )
local macro_rules | `(tactic| k_state_short () "isl") => `(tactic| first | assumption | exact IsL.frz _ | exact IsL.rd _ | exact IsL.own (by k_state_short () "look"))
local macro_rules | `(tactic| k_state_short () "ism") => `(tactic| first | exact IsM.frz _ | exact IsM.own (by k_state_short () "look"))
local macro_rules | `(tactic| k_state_short () "cmul") => `(tactic| first | exact Or.inl ⟨by omega, by omega⟩ | exact Or.inr ⟨by omega, by omega⟩)
local macro_rules | `(tactic| k_state_short () "tru") => `(tactic| first | exact Tru.bl _ | exact Tru.non | exact Tru.int _ | exact Tru.tup _ | exact Tru.lst (by k_state_short () "isl"))
local macro_rules | `(tactic| k_state_short () "tyn") => `(tactic| first | exact TyN.bl _ | exact TyN.non | exact TyN.int _ | exact TyN.str _ | exact TyN.tup _ | exact tyn_of (by assumption) | exact TyN.lst (by k_state_short () "isl"))
local macro_rules | `(tactic| k_state_short () "s1") => `(tactic| with_reducible first
  | refine s_seq ?_ | refine s_asg ?_ | refine s_if ?_ | refine s_ret ?_ | refine s_drop ?_ | refine s_retN ?_ | refine s_next ?_ | refine s_brk ?_ | refine s_cont ?_)
local macro_rules | `(tactic| k_state_short () "e1") => `(tactic| first
  | with_reducible refine e_op ?_ | ((with_reducible refine' e_var ?k1 ?_); (case k1 => rfl)) | with_reducible refine e_int ?_ | with_reducible refine e_bl ?_ | with_reducible refine e_non ?_ | with_reducible refine e_str ?_ | with_reducible refine e_ty ?_
  | with_reducible refine e_tup ?_ | (with_reducible refine e_isi2 ?_) | with_reducible refine e_cb ?_ | with_reducible refine a_cons ?_ | with_reducible refine a_nil ?_ | with_reducible refine e_call ?_ | with_reducible refine e_then ?_
  | with_reducible refine e_if ?_ | with_reducible refine e_andT ?_ | with_reducible refine e_orT ?_ | with_reducible refine e_notT ?_ | with_reducible refine e_chain ?_
  | with_reducible refine t_test ?_ | with_reducible refine t_tru ?_ | with_reducible refine t_not ?_ | with_reducible refine t_and ?_ | with_reducible refine t_or ?_ | with_reducible refine t_yes ?_ | with_reducible refine i_seq ?_ | with_reducible refine i_rng1 ?_ | with_reducible refine i_rng2 ?_)
local macro_rules | `(tactic| k_state_short () "r1") => `(tactic| first
  | ((with_reducible refine' r_ix ?k1 ?k2 ?_); (case k1 => k_state_short () "iss"); (case k2 => rfl))
  | with_reducible refine r_addI ?_ | with_reducible refine r_subI ?_ | with_reducible refine r_ltI ?_ | with_reducible refine r_leI ?_ | with_reducible refine r_gtI ?_ | with_reducible refine r_geI ?_ | with_reducible refine r_eqII ?_ | with_reducible refine r_neII ?_ | with_reducible refine r_isN ?_ | with_reducible refine r_notN ?_
  | ((with_reducible refine' r_modI ?k1 ?_); (case k1 => first | omega | decide)) | ((with_reducible refine' r_divI ?k1 ?k2 ?_); (case k1 => omega); (case k2 => omega)) | ((with_reducible refine' r_mulI ?k1 ?_); (case k1 => k_state_short () "cmul")) | ((with_reducible refine' r_powI ?k1 ?_); (case k1 => decide))
  | ((with_reducible refine' c_lenX ?k1 ?_); (case k1 => k_state_short () "iss")) | with_reducible refine c_absX ?_ | with_reducible refine c_maxX ?_ | with_reducible refine c_minX ?_ | with_reducible refine c_intX ?_
  | ((with_reducible refine' c_isi ?k1 ?k2 ?_); (case k1 => k_state_short () "tyn"); (case k2 => k_state_short () "kit"))
  | ((with_reducible refine' u_tuple ?k1 ?_); (case k1 => k_state_short () "iss"))
  | with_reducible refine g_name ?_ | with_reducible refine g_setL ?_ | ((with_reducible refine' g_tup ?k1 ?_); (case k1 => rfl)) | with_reducible refine g_cons ?_ | with_reducible refine g_nil ?_)
local macro_rules | `(tactic| k_state_short () "x1") => `(tactic| first
  | ((with_reducible refine' ⟨_, _, _, _, rfl, rfl, ?k1, ?k2, ?_⟩); (case k1 => k_state_short () "look"); (case k2 => rfl))
  | ((with_reducible refine' ⟨_, _, _, ?k1, ?k2, ?k3, ?_⟩); (case k1 => k_state_short () "tyn"); (case k2 => k_state_short () "kit"); (case k3 => k_state_short () "kit"))
  | ((with_reducible refine' ⟨_, rfl, ?k1, ?_⟩); (case k1 => with_reducible (refine And.intro ?_ ?_) <;> omega))
  | with_reducible refine ⟨_, rfl, ?_⟩
  | ((with_reducible refine' ⟨_, ?k1, ?_⟩); (case k1 => k_state_short () "tru"))
  | with_reducible refine And.intro (fun (_ : true = true) => ?_) (fun (e : true = false) => Bool.noConfusion e) | with_reducible refine And.intro (fun (e : false = true) => Bool.noConfusion e) (fun (_ : false = false) => ?_)
  | with_reducible refine And.intro (fun (e : true = false) => Bool.noConfusion e) (fun (_ : true = true) => ?_) | with_reducible refine And.intro (fun (_ : false = false) => ?_) (fun (e : false = true) => Bool.noConfusion e)
  | with_reducible refine And.intro (fun (e : (!true) = true) => (nt_t e).elim) (fun (_ : (!true) = false) => ?_) | with_reducible refine And.intro (fun (_ : (!false) = true) => ?_) (fun (e : (!false) = false) => (nf_f e).elim)
  | with_reducible refine And.intro (fun (_ : (!true) = false) => ?_) (fun (e : (!true) = true) => (nt_t e).elim) | with_reducible refine And.intro (fun (e : (!false) = false) => (nf_f e).elim) (fun (_ : (!false) = true) => ?_)
  | with_reducible refine @And.intro (_ = true → _) (_ = false → _) ?_ ?_ | with_reducible refine @And.intro (_ = false → _) (_ = true → _) ?_ ?_
  | (with_reducible refine And.intro ?k1 ?_; (case k1 => exact Nat.le_of_ble_eq_true rfl)))
local macro_rules | `(tactic| k_state_short () "gws") => `(tactic| first | exact gws_nil | (refine gws_cons gmono_name (gw_name (by decide)) ?_; k_state_short () "gws"))
local macro_rules | `(tactic| k_state_short () "gw") => `(tactic| first | exact gw_name (by decide) | (refine gw_tup ?_; k_state_short () "gws"))
local macro_rules | `(tactic| k_state_short () "d1") => `(tactic| first | k_state_short () "s1" | k_state_short () "e1" | k_state_short () "r1" | k_state_short () "x1")
local macro_rules | `(tactic| k_state_short () "d") => `(tactic| repeat k_state_short () "d1")
theorem pr_are_waits {K : PySem.W.Frag} : ∀ ds h QD QX, sp_are_waits ds h QD QX → dB K (t_are_waits K sp_is_listed sp_are_hourly) N_are_waits ds h QD := by
  rintro ds h QD QX ⟨x, p, many, last, rfl, hn, hn2, hp, k⟩
  unfold waitsP at k
  k_state_short () "d"
  refine ⟨_, _, _, rfl, hp, ?_⟩
  k_state_short () "d"
  rotate_left
  · intro hb
    rw [bnt hb, Bool.false_and] at k
    k_state_short () "d"
    exact k
  intro hb
  have hb := bnf hb
  rw [hb, Bool.true_and] at k
  obtain ⟨ps, e, e2⟩ := listed_len hb
  obtain ⟨ds, l, r⟩ := dpy_seq hp e
  have hl := dpys_len r
  rw [e] at k
  obtain ⟨d0, a0, q0⟩ := atI_dpys r (i := 0) (by omega) (by omega)
  obtain ⟨d1, a1, q1⟩ := atI_dpys r (i := many - 1) (by omega) (by omega)
  k_state_short () "d"
  refine r_ix l a0 ?_
  have n0 := isNon_dpy q0
  have n1 := isNon_dpy q1
  have k : QD (.bl (isNon d0 && (isNon d1 && ps.all (fun q => isNoneP q || hourlyP last q)))) h := by rw [n0, n1]; exact k
  clear n0 n1 q0 q1
  k_state_short () "d"
  rotate_left
  · intro hb
    rw [bnt hb, Bool.false_and] at k
    k_state_short () "d"
    exact k
  intro hb
  rw [bnf hb, Bool.true_and] at k
  k_state_short () "d"
  refine r_ix l a1 ?_
  k_state_short () "d"
  · intro hb
    rw [bnt hb, Bool.false_and] at k
    k_state_short () "d"
    exact k
  intro hb
  rw [bnf hb, Bool.true_and] at k
  k_state_short () "d"
  refine e_lcM (gw_name (by decide)) ?_
  k_state_short () "d"
  refine ⟨ds, l, by omega, l, (ps.map (fun q => isNoneP q || hourlyP last q)).map D.bl, by rw [List.length_map, List.length_map]; exact hl.symm, fun i d hd => ?_, ?_⟩
  · obtain ⟨q, h1, h2⟩ := dpys_get r hd
    have n := isNon_dpy h2
    have ek : (List.map D.bl (List.map (fun q => isNoneP q || hourlyP last q) ps))[i]? = some (.bl (isNon d || hourlyP last q)) := by
      rw [List.getElem?_map, List.getElem?_map, h1, n]; rfl
    k_state_short () "d"
    · intro hb
      k_state_short () "d"
      refine ⟨_, _, _, rfl, by omega, h2, rfl, ?_⟩
      rw [ek, hb]; rfl
    · intro hb
      refine ⟨rfl, ?_⟩
      rw [ek, hb]; rfl
  · k_state_short () "d"
    refine c_all (.frz _) ?_
    rw [all_id]
    exact k
/-- a thing that is no list, no tuple -/
def atomP : PyData → Bool
  | .none => true
  | .bool _ => true
  | .int _ => true
  | .str _ => true
  | _ => false
theorem atom_d {h : DH} {x : D} {p : PyData} (d : DPy h x p) (e : atomP p = true) : x = tupP p := by
  cases d <;> first | rfl | cases e
theorem atoms_d {h : DH} : ∀ {ds : List D} {ps : List PyData}, DPys h ds ps → ps.all atomP = true → ds = tupPs ps
  | _, _, .nil, _ => rfl
  | _, _, .cons a r, e => by
    rw [List.all_cons, Bool.and_eq_true] at e
    show _ = tupP _ :: tupPs _
    rw [atom_d a e.1, atoms_d r e.2]
theorem tupPs_get {ps : List PyData} : ∀ {i : Nat} {p : PyData}, ps[i]? = some p → (tupPs ps)[i]? = some (tupP p) := by
  induction ps with
  | nil => intro i p e; simp at e
  | cons q ps ih =>
    intro i p e
    cases i with
    | zero => simp at e; subst e; rfl
    | succ i => show (tupPs ps)[i]? = _; exact ih (by simpa using e)
theorem tupPs_len : ∀ ps : List PyData, (tupPs ps).length = ps.length
  | [] => rfl
  | p :: ps => by show (tupPs ps).length + 1 = _; rw [tupPs_len ps]; rfl
theorem tupP_seq {p : PyData} {ps : List PyData} (e : seqP p = some ps) : tupP p = .tup (tupPs ps) := by
  cases p <;> first | (cases e; rfl) | cases e
theorem within_atom {lo hi : Int} {p : PyData} (e : withinP lo hi p = true) : atomP p = true := by
  obtain ⟨i, rfl, _⟩ := within_num e
  rfl
theorem hourly_row {n : Int} {p : PyData} (e : hourlyP n p = true) : ∃ ps, seqP p = some ps ∧ (ps.length : Int) = n ∧ ps.all (withinP 0 1000000000) = true := by
  unfold hourlyP at e
  rw [Bool.and_eq_true] at e
  obtain ⟨ps, e1, e2⟩ := listed_len e.1
  rw [e1] at e
  exact ⟨ps, e1, e2, e.2⟩
theorem within_atoms {lo hi : Int} {ps : List PyData} (e : ps.all (withinP lo hi) = true) : ps.all atomP = true := by
  rw [List.all_eq_true] at e ⊢
  exact fun x hx => within_atom (e x hx)
theorem road_row {many : Int} {p : PyData} (e : roadP many p = true) : ∃ ps, seqP p = some ps ∧ ps.all atomP = true := by
  unfold roadP at e
  cases q : seqP p with
  | none => rw [q] at e; cases e
  | some ps =>
    rw [q] at e
    refine ⟨ps, rfl, ?_⟩
    match ps, e with
    | [a, b, c], e =>
      have e2 : (withinP 0 (many - 1) a && (withinP 0 (many - 1) b && (neP a b && withinP 1 1000000 c))) = true := e
      simp only [Bool.and_eq_true] at e2
      rw [List.all_cons, List.all_cons, List.all_cons, within_atom e2.1, within_atom e2.2.1, within_atom e2.2.2.2]
      rfl
def sp_taken_row : DSp := fun ds h Q _ => ∃ x p, ds = [x] ∧ DPy h x p ∧ (p = .none ∨ ∃ ps, seqP p = some ps ∧ ps.all atomP = true) ∧ Q (tupP p) h
theorem pr_taken_row {K : PySem.W.Frag} : ∀ ds h QD QX, sp_taken_row ds h QD QX → dB K (t_taken_row K) N_taken_row ds h QD := by
  rintro ds h QD QX ⟨x, p, rfl, hp, hf, k⟩
  rcases hf with rfl | ⟨ps, e, ha⟩
  · cases hp
    k_state_short () "d"
    · intro _
      k_state_short () "d"
      exact k
    · intro hb; cases hb
  · obtain ⟨ds, l, r⟩ := dpy_seq hp e
    have n : isNon x = false := by rw [isNon_dpy hp]; cases p <;> first | rfl | cases e
    rw [tupP_seq e, ← atoms_d r ha] at k
    k_state_short () "d"
    · intro hb; rw [n] at hb; cases hb
    · intro hb
      k_state_short () "d"
      exact k
/-- what made_calendar asks -/
structure CalOk (pm pl pw pr pq : PyData) (many last : Int) : Prop where
  m : pm = .int many
  l : pl = .int last
  mb : 2 ≤ many ∧ many ≤ 6
  lb : 0 ≤ last ∧ last ≤ 12
  w : roadsP many pw = true
  r : ∃ ws, seqP pw = some ws ∧ roomsP ws.length last pr = true
  q : waitsP many last pq = true
def sp_made_calendar : DSp := fun ds h Q _ => ∃ xm xl xw xr xq pm pl pw pr pq many last, ds = [xm, xl, xw, xr, xq] ∧ DPy h xm pm ∧ DPy h xl pl ∧ DPy h xw pw ∧ DPy h xr pr ∧ DPy h xq pq ∧ CalOk pm pl pw pr pq many last ∧
  Q (.tup [.int many, .int last, tupP pw, tupP pr, tupP pq]) h
theorem pr_made_calendar {K : PySem.W.Frag} : ∀ ds h QD QX, sp_made_calendar ds h QD QX → dB K (t_made_calendar K sp_is_within sp_are_roads sp_are_rooms sp_are_waits sp_taken_row) N_made_calendar ds h QD := by
  rintro ds h QD QX ⟨xm, xl, xw, xr, xq, pm, pl, pw, pr, pq, many, last, rfl, hm, hl, hw, hr, hq, C, k⟩
  obtain ⟨rfl, rfl, mb, lb, cw, ⟨ws, ew, cr⟩, cq⟩ := C
  obtain ⟨_, rfl, e⟩ := dpy_int hm rfl; cases e
  obtain ⟨_, rfl, e⟩ := dpy_int hl rfl; cases e
  obtain ⟨wd, wl, wr⟩ := dpy_seq hw ew
  have lw := dpys_len wr
  have w12 : ws.length ≤ 12 ∧ ws.all (roadP many) = true := by
    unfold roadsP at cw; rw [ew] at cw
    rw [Bool.and_eq_true] at cw
    exact ⟨of_decide_eq_true cw.1, cw.2⟩
  have i1 : withinP 2 6 (.int many) = true := by
    show (decide (2 ≤ many) && decide (many ≤ 6)) = true
    rw [decide_eq_true mb.1, decide_eq_true mb.2]; rfl
  have i2 : withinP 0 12 (.int last) = true := by
    show (decide (0 ≤ last) && decide (last ≤ 12)) = true
    rw [decide_eq_true lb.1, decide_eq_true lb.2]; rfl
  k_state_short () "d"
  refine ⟨_, _, _, _, rfl, hm, ?_⟩
  rw [i1]
  k_state_short () "d"
  refine ⟨_, _, _, _, rfl, hl, ?_⟩
  rw [i2]
  k_state_short () "d"
  refine ⟨_, _, _, rfl, hw, ?_⟩
  rw [cw]
  k_state_short () "d"
  refine ⟨_, _, _, _, rfl, by omega, by omega, hr, ?_⟩
  rw [lw, cr]
  k_state_short () "d"
  refine ⟨_, _, _, _, rfl, by omega, by omega, hq, ?_⟩
  rw [cq]
  k_state_short () "d"
  refine e_lcM (gw_name (by decide)) ?_
  k_state_short () "d"
  refine ⟨wd, wl, by omega, wl, tupPs ws, by rw [tupPs_len]; exact lw.symm, fun i d hd => ?_, ?_⟩
  · obtain ⟨q, h1, h2⟩ := dpys_get wr hd
    obtain ⟨ps, e1, e2⟩ := road_row (List.all_eq_true.mp w12.2 q (List.mem_of_getElem? h1))
    obtain ⟨qd, ql, qr⟩ := dpy_seq h2 e1
    k_state_short () "d"
    refine ⟨rfl, ?_⟩
    rw [tupPs_get h1, tupP_seq e1, atoms_d qr e2]
  k_state_short () "d"
  have fw : D.tup (tupPs ws) = tupP pw := (tupP_seq ew).symm
  rw [fw]
  have cr2 := cr
  unfold roomsP at cr2
  rw [Bool.and_eq_true] at cr2
  obtain ⟨rs, er, er2⟩ := listed_len cr2.1
  obtain ⟨rd, rl, rr⟩ := dpy_seq hr er
  rw [er] at cr2
  have lr := dpys_len rr
  refine e_lcM (gw_name (by decide)) ?_
  k_state_short () "d"
  refine ⟨rd, rl, by omega, rl, tupPs rs, by rw [tupPs_len]; exact lr.symm, fun i d hd => ?_, ?_⟩
  · obtain ⟨q, h1, h2⟩ := dpys_get rr hd
    obtain ⟨ps, e1, e2, e3⟩ := hourly_row (List.all_eq_true.mp cr2.2 q (List.mem_of_getElem? h1))
    obtain ⟨qd, ql, qr⟩ := dpy_seq h2 e1
    k_state_short () "d"
    refine ⟨rfl, ?_⟩
    rw [tupPs_get h1, tupP_seq e1, atoms_d qr (within_atoms e3)]
  k_state_short () "d"
  have fr : D.tup (tupPs rs) = tupP pr := (tupP_seq er).symm
  rw [fr]
  have cq2 := cq
  unfold waitsP at cq2
  rw [Bool.and_eq_true] at cq2
  obtain ⟨qs, eq, eq2⟩ := listed_len cq2.1
  obtain ⟨qd, ql, qr⟩ := dpy_seq hq eq
  rw [eq] at cq2
  have cq3 : qs.all (fun q => isNoneP q || hourlyP last q) = true := by
    have := cq2.2
    simp only [Bool.and_eq_true] at this
    exact this.2.2
  have lq := dpys_len qr
  refine e_lcM (gw_name (by decide)) ?_
  k_state_short () "d"
  refine ⟨qd, ql, by omega, ql, tupPs qs, by rw [tupPs_len]; exact lq.symm, fun i d hd => ?_, ?_⟩
  · obtain ⟨q, h1, h2⟩ := dpys_get qr hd
    have hq2 := List.all_eq_true.mp cq3 q (List.mem_of_getElem? h1)
    k_state_short () "d"
    refine ⟨_, _, rfl, h2, ?_, rfl, tupPs_get h1⟩
    rw [Bool.or_eq_true] at hq2
    rcases hq2 with z | z
    · left
      cases q <;> first | rfl | cases z
    · right
      obtain ⟨ps, e1, e2, e3⟩ := hourly_row z
      exact ⟨ps, e1, within_atoms e3⟩
  k_state_short () "d"
  have fq : D.tup (tupPs qs) = tupP pq := (tupP_seq eq).symm
  rw [fq]
  k_state_short () "d"
  exact k
end Lw
set_option maxHeartbeats 400000
namespace Lw
open PySem PySem.Spec PyProof.Rows L2 DL
local macro_rules | `(tactic| k_state_short () "kit") => `(tactic| first | exact kt_None_int | exact kt_bool_int | exact kt_int_int | exact kt_str_int | exact kt_list_int | exact kt_tuple_int | exact kt_None_bool | exact kt_bool_bool | exact kt_int_bool | exact kt_str_bool | exact kt_list_bool | exact kt_tuple_bool | exact kt_None_list | exact kt_bool_list | exact kt_int_list | exact kt_str_list | exact kt_list_list | exact kt_tuple_list | exact kt_None_tuple | exact kt_bool_tuple | exact kt_int_tuple | exact kt_str_tuple | exact kt_list_tuple | exact kt_tuple_tuple | exact kt_None_str | exact kt_bool_str | exact kt_int_str | exact kt_str_str | exact kt_list_str | exact kt_tuple_str | exact kit_int _ | exact kit_bool _ | exact kit_list _ | exact kit_tuple _ | exact kit_str _ | assumption)
local macro_rules | `(tactic| k_state_short () "look") => `(tactic| first | assumption | exact du_same | (refine (du_ne (by first | assumption | exact Ne.symm (by assumption))).trans ?_; k_state_short () "look"))
local macro_rules | `(tactic| k_state_short () "iss") => `(tactic| first | assumption | exact IsS.tup _ | exact IsS.lst (IsL.frz _) | exact IsS.lst (IsL.rd _) | exact IsS.lst (IsL.own (by k_state_short () "look")) )
local macro_rules | `(tactic| k_state_short () "isl") => `(tactic| first | assumption | exact IsL.frz _ | exact IsL.rd _ | exact IsL.own (by k_state_short () "look"))
local macro_rules | `(tactic| k_state_short () "ism") => `(tactic| first | exact IsM.frz _ | exact IsM.own (by k_state_short () "look"))
local macro_rules | `(tactic| k_state_short () "cmul") => `(tactic| first | exact Or.inl ⟨by omega, by omega⟩ | exact Or.inr ⟨by omega, by omega⟩)
local macro_rules | `(tactic| k_state_short () "tru") => `(tactic| first | exact Tru.bl _ | exact Tru.non | exact Tru.int _ | exact Tru.tup _ | exact Tru.lst (by k_state_short () "isl"))
local macro_rules | `(tactic| k_state_short () "tyn") => `(tactic| first | exact TyN.bl _ | exact TyN.non | exact TyN.int _ | exact TyN.str _ | exact TyN.tup _ | exact tyn_of (by assumption) | exact TyN.lst (by k_state_short () "isl"))
local macro_rules | `(tactic| k_state_short () "s1") => `(tactic| with_reducible first
  | refine s_seq ?_ | refine s_asg ?_ | refine s_if ?_ | refine s_ret ?_ | refine s_drop ?_ | refine s_retN ?_ | refine s_next ?_ | refine s_brk ?_ | refine s_cont ?_)
local macro_rules | `(tactic| k_state_short () "e1") => `(tactic| first
  | with_reducible refine e_op ?_ | ((with_reducible refine' e_var ?k1 ?_); (case k1 => rfl)) | with_reducible refine e_int ?_ | with_reducible refine e_bl ?_ | with_reducible refine e_non ?_ | with_reducible refine e_str ?_ | with_reducible refine e_ty ?_
  | with_reducible refine e_tup ?_ | (with_reducible refine e_isi2 ?_) | with_reducible refine e_cb ?_ | with_reducible refine a_cons ?_ | with_reducible refine a_nil ?_ | with_reducible refine e_call ?_ | with_reducible refine e_then ?_
  | with_reducible refine e_if ?_ | with_reducible refine e_andT ?_ | with_reducible refine e_orT ?_ | with_reducible refine e_notT ?_ | with_reducible refine e_chain ?_
  | with_reducible refine t_test ?_ | with_reducible refine t_tru ?_ | with_reducible refine t_not ?_ | with_reducible refine t_and ?_ | with_reducible refine t_or ?_ | with_reducible refine t_yes ?_ | with_reducible refine i_seq ?_ | with_reducible refine i_rng1 ?_ | with_reducible refine i_rng2 ?_)
local macro_rules | `(tactic| k_state_short () "r1") => `(tactic| first
  | ((with_reducible refine' r_ix ?k1 ?k2 ?_); (case k1 => k_state_short () "iss"); (case k2 => rfl))
  | with_reducible refine r_addI ?_ | with_reducible refine r_subI ?_ | with_reducible refine r_ltI ?_ | with_reducible refine r_leI ?_ | with_reducible refine r_gtI ?_ | with_reducible refine r_geI ?_ | with_reducible refine r_eqII ?_ | with_reducible refine r_neII ?_ | with_reducible refine r_isN ?_ | with_reducible refine r_notN ?_
  | ((with_reducible refine' r_modI ?k1 ?_); (case k1 => first | omega | decide)) | ((with_reducible refine' r_divI ?k1 ?k2 ?_); (case k1 => omega); (case k2 => omega)) | ((with_reducible refine' r_mulI ?k1 ?_); (case k1 => k_state_short () "cmul")) | ((with_reducible refine' r_powI ?k1 ?_); (case k1 => decide))
  | ((with_reducible refine' c_lenX ?k1 ?_); (case k1 => k_state_short () "iss")) | with_reducible refine c_absX ?_ | with_reducible refine c_maxX ?_ | with_reducible refine c_minX ?_ | with_reducible refine c_intX ?_
  | ((with_reducible refine' c_isi ?k1 ?k2 ?_); (case k1 => k_state_short () "tyn"); (case k2 => k_state_short () "kit"))
  | ((with_reducible refine' u_tuple ?k1 ?_); (case k1 => k_state_short () "iss"))
  | with_reducible refine g_name ?_ | with_reducible refine g_setL ?_ | ((with_reducible refine' g_tup ?k1 ?_); (case k1 => rfl)) | with_reducible refine g_cons ?_ | with_reducible refine g_nil ?_)
local macro_rules | `(tactic| k_state_short () "x1") => `(tactic| first
  | ((with_reducible refine' ⟨_, _, _, _, rfl, rfl, ?k1, ?k2, ?_⟩); (case k1 => k_state_short () "look"); (case k2 => rfl))
  | ((with_reducible refine' ⟨_, _, _, ?k1, ?k2, ?k3, ?_⟩); (case k1 => k_state_short () "tyn"); (case k2 => k_state_short () "kit"); (case k3 => k_state_short () "kit"))
  | ((with_reducible refine' ⟨_, rfl, ?k1, ?_⟩); (case k1 => with_reducible (refine And.intro ?_ ?_) <;> omega))
  | with_reducible refine ⟨_, rfl, ?_⟩
  | ((with_reducible refine' ⟨_, ?k1, ?_⟩); (case k1 => k_state_short () "tru"))
  | with_reducible refine And.intro (fun (_ : true = true) => ?_) (fun (e : true = false) => Bool.noConfusion e) | with_reducible refine And.intro (fun (e : false = true) => Bool.noConfusion e) (fun (_ : false = false) => ?_)
  | with_reducible refine And.intro (fun (e : true = false) => Bool.noConfusion e) (fun (_ : true = true) => ?_) | with_reducible refine And.intro (fun (_ : false = false) => ?_) (fun (e : false = true) => Bool.noConfusion e)
  | with_reducible refine And.intro (fun (e : (!true) = true) => (nt_t e).elim) (fun (_ : (!true) = false) => ?_) | with_reducible refine And.intro (fun (_ : (!false) = true) => ?_) (fun (e : (!false) = false) => (nf_f e).elim)
  | with_reducible refine And.intro (fun (_ : (!true) = false) => ?_) (fun (e : (!true) = true) => (nt_t e).elim) | with_reducible refine And.intro (fun (e : (!false) = false) => (nf_f e).elim) (fun (_ : (!false) = true) => ?_)
  | with_reducible refine @And.intro (_ = true → _) (_ = false → _) ?_ ?_ | with_reducible refine @And.intro (_ = false → _) (_ = true → _) ?_ ?_
  | (with_reducible refine And.intro ?k1 ?_; (case k1 => exact Nat.le_of_ble_eq_true rfl)))
local macro_rules | `(tactic| k_state_short () "gws") => `(tactic| first | exact gws_nil | (refine gws_cons gmono_name (gw_name (by decide)) ?_; k_state_short () "gws"))
local macro_rules | `(tactic| k_state_short () "gw") => `(tactic| first | exact gw_name (by decide) | (refine gw_tup ?_; k_state_short () "gws"))
local macro_rules | `(tactic| k_state_short () "d1") => `(tactic| first | k_state_short () "s1" | k_state_short () "e1" | k_state_short () "r1" | k_state_short () "x1")
local macro_rules | `(tactic| k_state_short () "d") => `(tactic| repeat k_state_short () "d1")
/-! ### the law's own defs -/
def sp_pool : DSp := fun ds h Q _ => ∃ c : Int, ds = [.int c] ∧ ∀ p a b z, h p = none → Q (.ref p) (dupd h p (.lst [.int a, .int b, .int z]))
theorem pr_pool {K : PySem.W.Frag} : ∀ ds h QD QX, sp_pool ds h QD QX → dB K (t__law_pool K) N__law_pool ds h QD := by
  rintro ds h QD QX ⟨c, rfl, k⟩
  k_state_short () "d"
  refine e_lst ?_
  k_state_short () "d"
  exact fun p hp => k p _ _ _ hp
structure Road where
  a : Int
  b : Int
  t : Int
def Road.d (w : Road) : D := .tup [.int w.a, .int w.b, .int w.t]
def Road.p (w : Road) : PyData := .tuple [.int w.a, .int w.b, .int w.t]
structure Road.ok (many : Int) (w : Road) : Prop where
  a : 0 ≤ w.a ∧ w.a < many
  b : 0 ≤ w.b ∧ w.b < many
  ne : w.a ≠ w.b
  t : 1 ≤ w.t ∧ w.t ≤ 1000000
/-- a pair of places -/
def edD (e : Int × Int) : D := .tup [.int e.1, .int e.2]
def edOk (many : Int) (e : Int × Int) : Prop := (0 ≤ e.1 ∧ e.1 < many) ∧ (0 ≤ e.2 ∧ e.2 < many) ∧ e.1 ≠ e.2
def sp_roads : DSp := fun ds h Q _ => ∃ (p : Addr) (many : Int), ds = [.ref p, .int many] ∧ PoolAt h p ∧ (2 ≤ many ∧ many ≤ 6) ∧ ∀ (ws : List Road) h', PoolStep p h h' → ws.length ≤ 12 → (∀ w ∈ ws, w.ok many) → Q (.lst (ws.map Road.d)) h'
theorem pr_roads {K : PySem.W.Frag} : ∀ ds h QD QX, sp_roads ds h QD QX → dB K (t__law_roads K sp_next sp_wide) N__law_roads ds h QD := by
  rintro ds h QD QX ⟨p, many, rfl, hp, hm, k⟩
  k_state_short () "d"
  refine e_lst ?_
  k_state_short () "d"
  intro l hl
  have nl := hp.ne hl
  k_state_short () "d"
  refine s_for ?_
  k_state_short () "d"
  refine ⟨fun i δ' h' => ∃ (es : List (Int × Int)) (x : Option D), δ' = [some (.ref p), some (.int many), some (.ref l), x, none, none, none, none] ∧ PoolStep p h h' ∧ h' l = some (.lst (es.map edD)) ∧ es.length ≤ i ∧ ∀ e ∈ es, edOk many e,
    ⟨[], none, rfl, (PoolStep.refl hp).new hl nl, du_same, Nat.le_refl _, fun e he => by cases he⟩, fun i δ' h' _ => trivial, ?_, ?_⟩
  · rintro i d δ' h' hd ⟨es, x, rfl, st, hL, hz, ho⟩
    obtain ⟨hi, rfl⟩ := rngD_get hd
    k_state_short () "d"
    refine ⟨_, _, rfl, st.at, by decide, fun d1 h1 s1 _ _ => ?_⟩
    have hL1 := s1.1 _ _ nl hL
    k_state_short () "d"
    · intro hb
      k_state_short () "d"
      refine e_bmL ?_
      k_state_short () "d"
      refine ⟨_, .own hL1, ?_⟩
      k_state_short () "d"
      refine m_append hL1 (by rw [List.length_map]; omega) ?_
      refine ⟨es ++ [((0 : Int) + (i : Nat), (0 : Int) + (i : Nat) + 1)], _, rfl, (st.trans s1).new hl nl, ?_, ?_, ?_⟩
      · rw [du_same, List.map_append]; rfl
      · rw [List.length_append]; exact Nat.succ_le_succ hz
      · intro e he
        rcases List.mem_append.mp he with q | q
        · exact ho e q
        · cases List.mem_singleton.mp q
          exact ⟨⟨by omega, by omega⟩, ⟨by omega, by omega⟩, by omega⟩
    · intro hb
      k_state_short () "d"
      exact ⟨es, _, rfl, st.trans s1, hL1, by omega, ho⟩
  · rintro δ' h' ⟨es, x, rfl, st, hL, hz, ho⟩
    rw [rngD_len] at hz
    k_state_short () "d"
    refine s_for ?_
    k_state_short () "d"
    refine ⟨_, _, rfl, st.at, by rw [List.length_map]; omega, fun d2 h2 s2 l2 u2 => ?_⟩
    rw [List.length_map] at u2
    have hL2 := s2.1 _ _ nl hL
    have st2 := st.trans s2
    k_state_short () "d"
    refine ⟨fun i δ' h' => ∃ (es : List (Int × Int)) (x y z : Option D), δ' = [some (.ref p), some (.int many), some (.ref l), x, y, none, z, none] ∧ PoolStep p h h' ∧ h' l = some (.lst (es.map edD)) ∧ (es.length : Int) + (d2.toNat - i) ≤ 12 ∧ i ≤ d2.toNat ∧ ∀ e ∈ es, edOk many e,
      ⟨es, _, _, _, rfl, st2, hL2, by omega, by omega, ho⟩, fun i δ' h' _ => trivial, ?_, ?_⟩
    · clear hL2 hL ho st st2 hz u2
      rintro i d δ' h' hd ⟨es, x, y, z, rfl, st, hL, hz, hz2, ho⟩
      obtain ⟨hi, rfl⟩ := rngD_get hd
      k_state_short () "d"
      refine ⟨_, _, rfl, st.at, by omega, fun d3 h3 s3 l3 u3 => ?_⟩
      have hL3 := s3.1 _ _ nl hL
      k_state_short () "d"
      refine e_bmL ?_
      k_state_short () "d"
      refine ⟨_, .own hL3, ?_⟩
      k_state_short () "d"
      refine ⟨_, _, rfl, s3.at, by omega, fun d4 h4 s4 l4 u4 => ?_⟩
      have hL4 := s4.1 _ _ nl hL3
      k_state_short () "d"
      refine m_append hL4 (by rw [List.length_map]; omega) ?_
      refine ⟨es ++ [(d3, (d3 + 1 + d4) % many)], _, _, _, rfl, ((st.trans s3).trans s4).new hl nl, ?_, ?_, by omega, ?_⟩
      · rw [du_same, List.map_append]; rfl
      · rw [List.length_append, List.length_singleton]; omega
      · intro e he
        rcases List.mem_append.mp he with q | q
        · exact ho e q
        · cases List.mem_singleton.mp q
          refine ⟨⟨l3, u3⟩, ⟨Int.emod_nonneg _ (by omega), Int.emod_lt_of_pos _ (by omega)⟩, ?_⟩
          show d3 ≠ (d3 + 1 + d4) % many
          intro e
          by_cases w : d3 + 1 + d4 < many
          · rw [Int.emod_eq_of_lt (by omega) w] at e; omega
          · have e2 : (d3 + 1 + d4) % many = d3 + 1 + d4 - many := by
              rw [← Int.sub_emod_right]
              exact Int.emod_eq_of_lt (by omega) (by omega)
            rw [e2] at e; omega
    · clear hL2 hL ho st st2 hz u2
      rintro δ' h' ⟨es, x, y, z, rfl, st, hL, hz, hz2, ho⟩
      rw [rngD_len] at hz hz2
      k_state_short () "d"
      refine e_lst ?_
      k_state_short () "d"
      intro f hf
      have nf : f ≠ p := st.at.ne hf
      have nfl : f ≠ l := Ne.symm (dne_none hL hf)
      have hf0 : h f = none := st.back hf nf
      k_state_short () "d"
      refine s_for ?_
      k_state_short () "d"
      refine ⟨_, .lst (.own (by rw [du_ne (Ne.symm nfl)]; exact hL)), ?_⟩
      refine ⟨fun i δ' h' => ∃ (ws : List Road) (x y z u : Option D), δ' = [some (.ref p), some (.int many), some (.ref l), x, y, some (.ref f), z, u] ∧ PoolStep p h h' ∧ h' l = some (.lst (es.map edD)) ∧ h' f = some (.lst (ws.map Road.d)) ∧ ws.length ≤ i ∧ ∀ w ∈ ws, w.ok many,
        ⟨[], _, _, _, _, rfl, st.trans ((PoolStep.refl st.at).new hf nf), by rw [du_ne (Ne.symm nfl)]; exact hL, du_same, Nat.le_refl _, fun e he => by cases he⟩, ?_, ?_, ?_⟩
      · rintro i δ' h' ⟨ws, _, _, _, _, _, _, hL, _⟩
        exact .lst (.own hL)
      · rintro i d δ' h' hd ⟨ws, x, y, z, u, rfl, st, hL, hF, hz3, ho3⟩
        rw [List.getElem?_map] at hd
        obtain ⟨e, he, rfl⟩ := Option.map_eq_some_iff.mp hd
        have hi : i < es.length := (List.getElem?_eq_some_iff.mp he).1
        have oe := ho e (List.mem_of_getElem? he)
        unfold edD
        k_state_short () "d"
        refine e_bmL ?_
        k_state_short () "d"
        refine ⟨_, .own hF, ?_⟩
        k_state_short () "d"
        refine e_lstF ?_
        k_state_short () "d"
        refine ⟨_, _, rfl, st.at, by decide, fun d5 h5 s5 l5 u5 => ?_⟩
        k_state_short () "d"
        refine ⟨_, _, rfl, s5.at, by decide, fun d6 h6 s6 l6 u6 => ?_⟩
        k_state_short () "d"
        refine ⟨_, _, rfl, s6.at, by decide, fun d7 h7 s7 l7 u7 => ?_⟩
        have u6 : d6 < 1000000 := u6
        have s57 := (s5.trans s6).trans s7
        have st7 := st.trans s57
        have hF7 := s57.1 _ _ nf hF
        have hL7 := s57.1 _ _ nl hL
        have pick : ∃ t : Int, atI [D.int 1, D.int 1, D.int 2, D.int 2, D.int 3, D.int (1 + d5), D.int (1 + d6)] d7 = some (.int t) ∧ 1 ≤ t ∧ t ≤ 1000000 := by
          have : d7 = 0 ∨ d7 = 1 ∨ d7 = 2 ∨ d7 = 3 ∨ d7 = 4 ∨ d7 = 5 ∨ d7 = 6 := by omega
          rcases this with rfl | rfl | rfl | rfl | rfl | rfl | rfl
          · exact ⟨1, rfl, by omega, by omega⟩
          · exact ⟨1, rfl, by omega, by omega⟩
          · exact ⟨2, rfl, by omega, by omega⟩
          · exact ⟨2, rfl, by omega, by omega⟩
          · exact ⟨3, rfl, by omega, by omega⟩
          · exact ⟨1 + d5, rfl, by omega, by omega⟩
          · exact ⟨1 + d6, rfl, by omega, by omega⟩
        obtain ⟨t, et, t1, t2⟩ := pick
        refine r_ix (.lst (.frz _)) et ?_
        k_state_short () "d"
        refine m_append hF7 (by rw [List.length_map]; omega) ?_
        refine ⟨ws ++ [⟨e.1, e.2, t⟩], _, _, _, _, rfl, ?_, ?_, ?_, ?_, ?_⟩
        · exact st7.new hf0 nf
        · rw [du_ne (Ne.symm nfl)]; exact hL7
        · rw [du_same, List.map_append]; rfl
        · rw [List.length_append]; exact Nat.succ_le_succ hz3
        · intro w hw
          rcases List.mem_append.mp hw with q | q
          · exact ho3 w q
          · cases List.mem_singleton.mp q
            exact ⟨oe.1, oe.2.1, oe.2.2, ⟨t1, t2⟩⟩
      · rintro δ' h' ⟨ws, x, y, z, u, rfl, st, hL, hF, hz3, ho3⟩
        rw [List.length_map] at hz3
        refine s_ret (e_frz ?_)
        k_state_short () "d"
        refine ⟨f, _, rfl, hF, ?_⟩
        exact k ws _ (st.drop hf0 nf) (by omega) ho3
def rowsD (rs : List (List Int)) : List D := rs.map fun r => .lst (r.map D.int)
def sp_rows : DSp := fun ds h Q _ => ∃ (p : Addr) (many length : Int), ds = [.ref p, .int many, .int length] ∧ PoolAt h p ∧ (0 ≤ many ∧ many ≤ 1000) ∧ (0 ≤ length ∧ length ≤ 1000) ∧ ∀ (rs : List (List Int)) h', PoolStep p h h' → rs.length = many.toNat →
  (∀ r ∈ rs, r.length = length.toNat ∧ ∀ x ∈ r, 0 ≤ x ∧ x ≤ 1000000000) → Q (.lst (rowsD rs)) h'
theorem pr_rows {K : PySem.W.Frag} : ∀ ds h QD QX, sp_rows ds h QD QX → dB K (t__law_rows K sp_next sp_wide) N__law_rows ds h QD := by
  rintro ds h QD QX ⟨p, many, length, rfl, hp, hm, hl, k⟩
  k_state_short () "d"
  refine e_lstF ?_
  k_state_short () "d"
  refine ⟨_, _, rfl, hp, by decide, fun d1 h1 s1 l1 u1 => ?_⟩
  k_state_short () "d"
  have pick : ∃ t : Int, atI [D.int 3, D.int 10, D.int (10 ^ Int.toNat 9 + 1)] d1 = some (.int t) ∧ 0 < t ∧ t ≤ 1000000001 := by
    have : d1 = 0 ∨ d1 = 1 ∨ d1 = 2 := by omega
    rcases this with rfl | rfl | rfl
    · exact ⟨3, rfl, by omega, by omega⟩
    · exact ⟨10, rfl, by omega, by omega⟩
    · exact ⟨_, rfl, by decide, by decide⟩
  obtain ⟨high, et, t1, t2⟩ := pick
  refine r_ix (.lst (.frz _)) et ?_
  k_state_short () "d"
  refine e_lcX (gw_name (by decide)) ?_
  k_state_short () "d"
  refine ⟨by rw [rngD_len]; omega, fun i acc h' => ∃ rs : List (List Int), PoolStep p h h' ∧ acc = rowsD rs ∧ rs.length = i ∧ ∀ r ∈ rs, r.length = length.toNat ∧ ∀ x ∈ r, 0 ≤ x ∧ x ≤ 1000000000,
    ⟨[], s1, rfl, rfl, fun r hr => by cases hr⟩, fun _ _ _ _ => trivial, ?_, ?_⟩
  · rintro i d acc h' hd ⟨rs, st, rfl, hz, ho⟩ _
    k_state_short () "d"
    refine e_lcX (gw_name (by decide)) ?_
    k_state_short () "d"
    refine ⟨by rw [rngD_len]; omega, fun j acc h' => ∃ ns : List Int, PoolStep p h h' ∧ acc = ns.map D.int ∧ ns.length = j ∧ ∀ x ∈ ns, 0 ≤ x ∧ x ≤ 1000000000,
      ⟨[], st, rfl, rfl, fun r hr => by cases hr⟩, fun _ _ _ _ => trivial, ?_, ?_⟩
    · rintro j d2 acc h' hd2 ⟨ns, st, rfl, hz2, ho2⟩ _
      k_state_short () "d"
      refine ⟨_, _, rfl, st.at, t1, fun d3 h3 s3 l3 u3 => ?_⟩
      refine ⟨ns ++ [d3], st.trans s3, by rw [List.map_append]; rfl, by rw [List.length_append, hz2]; rfl, ?_⟩
      intro x hx
      rcases List.mem_append.mp hx with q | q
      · exact ho2 x q
      · cases List.mem_singleton.mp q
        exact ⟨l3, by omega⟩
    · rintro acc h' ⟨ns, st, rfl, hz2, ho2⟩
      rw [rngD_len] at hz2
      left
      refine ⟨rs ++ [ns], st, by unfold rowsD; rw [List.map_append]; rfl, by rw [List.length_append, hz]; rfl, ?_⟩
      intro r hr
      rcases List.mem_append.mp hr with q | q
      · exact ho r q
      · cases List.mem_singleton.mp q
        exact ⟨by omega, ho2⟩
  · rintro acc h' ⟨rs, st, rfl, hz, ho⟩
    rw [rngD_len] at hz
    left
    exact k rs h' st hz ho
/-! ### handed in: owned lists or tuples -/
def sp_as : DSp := fun ds h Q _ => ∃ (p : Addr) (x : D) (xs : List D), ds = [.ref p, x] ∧ PoolAt h p ∧ (∀ h', PoolStep p h h' → IsS h' x xs) ∧
  (∀ h', PoolStep p h h' → (∀ l, h' l = none → Q (.ref l) (dupd h' l (.lst xs))) ∧ Q (.tup xs) h')
theorem pr_as {K : PySem.W.Frag} : ∀ ds h QD QX, sp_as ds h QD QX → dB K (t__law_as K sp_next) N__law_as ds h QD := by
  rintro ds h QD QX ⟨p, x, xs, rfl, hp, hx, k⟩
  k_state_short () "d"
  refine ⟨_, _, rfl, hp, by decide, fun d1 h1 s1 l1 u1 => ?_⟩
  have l := hx h1 s1
  k_state_short () "d"
  · intro hb
    k_state_short () "d"
    exact c_list l (fun q hq => (k h1 s1).1 q hq)
  · intro hb
    k_state_short () "d"
    exact (k h1 s1).2
/-- a row of None and rows of atoms, as tuples -/
def sp_flat : DSp := fun ds h Q _ => ∃ x p ps, ds = [x] ∧ DPy h x p ∧ seqP p = some ps ∧ ps.length ≤ 1000 ∧ (∀ q ∈ ps, q = .none ∨ ∃ qs, seqP q = some qs ∧ qs.all atomP = true) ∧ Q (tupP p) h
theorem pr_flat {K : PySem.W.Frag} : ∀ ds h QD QX, sp_flat ds h QD QX → dB K (t__law_flat K) N__law_flat ds h QD := by
  rintro ds h QD QX ⟨x, p, ps, rfl, hp, e, hz, ha, k⟩
  obtain ⟨ds, l, r⟩ := dpy_seq hp e
  have hl := dpys_len r
  k_state_short () "d"
  refine e_lcM (gw_name (by decide)) ?_
  k_state_short () "d"
  refine ⟨ds, l, by omega, l, tupPs ps, by rw [tupPs_len]; exact hl.symm, fun i d hd => ?_, ?_⟩
  · obtain ⟨q, h1, h2⟩ := dpys_get r hd
    have e2 := tupPs_get h1
    rcases ha q (List.mem_of_getElem? h1) with rfl | ⟨qs, e1, a1⟩
    · cases h2
      k_state_short () "d"
      · intro hb
        k_state_short () "d"
        exact ⟨rfl, e2⟩
      · intro hb; cases hb
    · obtain ⟨qd, ql, qr⟩ := dpy_seq h2 e1
      have n : isNon d = false := by rw [isNon_dpy h2]; cases q <;> first | rfl | cases e1
      rw [tupP_seq e1, ← atoms_d qr a1] at e2
      k_state_short () "d"
      · intro hb; rw [n] at hb; cases hb
      · intro hb
        k_state_short () "d"
        exact ⟨rfl, e2⟩
  · k_state_short () "d"
    rw [← tupP_seq e]
    exact k
end Lw
set_option maxHeartbeats 400000
namespace Lw
open PySem PySem.Spec PyProof.Rows L2 DL
local macro_rules | `(tactic| k_state_short () "kit") => `(tactic| first | exact kt_None_int | exact kt_bool_int | exact kt_int_int | exact kt_str_int | exact kt_list_int | exact kt_tuple_int | exact kt_None_bool | exact kt_bool_bool | exact kt_int_bool | exact kt_str_bool | exact kt_list_bool | exact kt_tuple_bool | exact kt_None_list | exact kt_bool_list | exact kt_int_list | exact kt_str_list | exact kt_list_list | exact kt_tuple_list | exact kt_None_tuple | exact kt_bool_tuple | exact kt_int_tuple | exact kt_str_tuple | exact kt_list_tuple | exact kt_tuple_tuple | exact kt_None_str | exact kt_bool_str | exact kt_int_str | exact kt_str_str | exact kt_list_str | exact kt_tuple_str | exact kit_int _ | exact kit_bool _ | exact kit_list _ | exact kit_tuple _ | exact kit_str _ | assumption)
local macro_rules | `(tactic| k_state_short () "look") => `(tactic| first | assumption | exact du_same | (refine (du_ne (by first | assumption | exact Ne.symm (by assumption))).trans ?_; k_state_short () "look"))
local macro_rules | `(tactic| k_state_short () "iss") => `(tactic| first | assumption | exact IsS.tup _ | exact IsS.lst (IsL.frz _) | exact IsS.lst (IsL.rd _) | exact IsS.lst (IsL.own (by k_state_short () "look")) )
local macro_rules | `(tactic| k_state_short () "isl") => `(tactic| first | assumption | exact IsL.frz _ | exact IsL.rd _ | exact IsL.own (by k_state_short () "look"))
local macro_rules | `(tactic| k_state_short () "ism") => `(tactic| first | exact IsM.frz _ | exact IsM.own (by k_state_short () "look"))
local macro_rules | `(tactic| k_state_short () "cmul") => `(tactic| first | exact Or.inl ⟨by omega, by omega⟩ | exact Or.inr ⟨by omega, by omega⟩)
local macro_rules | `(tactic| k_state_short () "tru") => `(tactic| first | exact Tru.bl _ | exact Tru.non | exact Tru.int _ | exact Tru.tup _ | exact Tru.lst (by k_state_short () "isl"))
local macro_rules | `(tactic| k_state_short () "tyn") => `(tactic| first | exact TyN.bl _ | exact TyN.non | exact TyN.int _ | exact TyN.str _ | exact TyN.tup _ | exact tyn_of (by assumption) | exact TyN.lst (by k_state_short () "isl"))
local macro_rules | `(tactic| k_state_short () "s1") => `(tactic| with_reducible first
  | refine s_seq ?_ | refine s_asg ?_ | refine s_if ?_ | refine s_ret ?_ | refine s_drop ?_ | refine s_retN ?_ | refine s_next ?_ | refine s_brk ?_ | refine s_cont ?_)
local macro_rules | `(tactic| k_state_short () "e1") => `(tactic| first
  | with_reducible refine e_op ?_ | ((with_reducible refine' e_var ?k1 ?_); (case k1 => rfl)) | with_reducible refine e_int ?_ | with_reducible refine e_bl ?_ | with_reducible refine e_non ?_ | with_reducible refine e_str ?_ | with_reducible refine e_ty ?_
  | with_reducible refine e_tup ?_ | (with_reducible refine e_isi2 ?_) | with_reducible refine e_cb ?_ | with_reducible refine a_cons ?_ | with_reducible refine a_nil ?_ | with_reducible refine e_call ?_ | with_reducible refine e_then ?_
  | with_reducible refine e_if ?_ | with_reducible refine e_andT ?_ | with_reducible refine e_orT ?_ | with_reducible refine e_notT ?_ | with_reducible refine e_chain ?_
  | with_reducible refine t_test ?_ | with_reducible refine t_tru ?_ | with_reducible refine t_not ?_ | with_reducible refine t_and ?_ | with_reducible refine t_or ?_ | with_reducible refine t_yes ?_ | with_reducible refine i_seq ?_ | with_reducible refine i_rng1 ?_ | with_reducible refine i_rng2 ?_)
local macro_rules | `(tactic| k_state_short () "r1") => `(tactic| first
  | ((with_reducible refine' r_ix ?k1 ?k2 ?_); (case k1 => k_state_short () "iss"); (case k2 => rfl))
  | with_reducible refine r_addI ?_ | with_reducible refine r_subI ?_ | with_reducible refine r_ltI ?_ | with_reducible refine r_leI ?_ | with_reducible refine r_gtI ?_ | with_reducible refine r_geI ?_ | with_reducible refine r_eqII ?_ | with_reducible refine r_neII ?_ | with_reducible refine r_isN ?_ | with_reducible refine r_notN ?_
  | ((with_reducible refine' r_modI ?k1 ?_); (case k1 => first | omega | decide)) | ((with_reducible refine' r_divI ?k1 ?k2 ?_); (case k1 => omega); (case k2 => omega)) | ((with_reducible refine' r_mulI ?k1 ?_); (case k1 => k_state_short () "cmul")) | ((with_reducible refine' r_powI ?k1 ?_); (case k1 => decide))
  | ((with_reducible refine' c_lenX ?k1 ?_); (case k1 => k_state_short () "iss")) | with_reducible refine c_absX ?_ | with_reducible refine c_maxX ?_ | with_reducible refine c_minX ?_ | with_reducible refine c_intX ?_
  | ((with_reducible refine' c_isi ?k1 ?k2 ?_); (case k1 => k_state_short () "tyn"); (case k2 => k_state_short () "kit"))
  | ((with_reducible refine' u_tuple ?k1 ?_); (case k1 => k_state_short () "iss"))
  | with_reducible refine g_name ?_ | with_reducible refine g_setL ?_ | ((with_reducible refine' g_tup ?k1 ?_); (case k1 => rfl)) | with_reducible refine g_cons ?_ | with_reducible refine g_nil ?_)
local macro_rules | `(tactic| k_state_short () "x1") => `(tactic| first
  | ((with_reducible refine' ⟨_, _, _, _, rfl, rfl, ?k1, ?k2, ?_⟩); (case k1 => k_state_short () "look"); (case k2 => rfl))
  | ((with_reducible refine' ⟨_, _, _, ?k1, ?k2, ?k3, ?_⟩); (case k1 => k_state_short () "tyn"); (case k2 => k_state_short () "kit"); (case k3 => k_state_short () "kit"))
  | ((with_reducible refine' ⟨_, rfl, ?k1, ?_⟩); (case k1 => with_reducible (refine And.intro ?_ ?_) <;> omega))
  | with_reducible refine ⟨_, rfl, ?_⟩
  | ((with_reducible refine' ⟨_, ?k1, ?_⟩); (case k1 => k_state_short () "tru"))
  | with_reducible refine And.intro (fun (_ : true = true) => ?_) (fun (e : true = false) => Bool.noConfusion e) | with_reducible refine And.intro (fun (e : false = true) => Bool.noConfusion e) (fun (_ : false = false) => ?_)
  | with_reducible refine And.intro (fun (e : true = false) => Bool.noConfusion e) (fun (_ : true = true) => ?_) | with_reducible refine And.intro (fun (_ : false = false) => ?_) (fun (e : false = true) => Bool.noConfusion e)
  | with_reducible refine And.intro (fun (e : (!true) = true) => (nt_t e).elim) (fun (_ : (!true) = false) => ?_) | with_reducible refine And.intro (fun (_ : (!false) = true) => ?_) (fun (e : (!false) = false) => (nf_f e).elim)
  | with_reducible refine And.intro (fun (_ : (!true) = false) => ?_) (fun (e : (!true) = true) => (nt_t e).elim) | with_reducible refine And.intro (fun (e : (!false) = false) => (nf_f e).elim) (fun (_ : (!false) = true) => ?_)
  | with_reducible refine @And.intro (_ = true → _) (_ = false → _) ?_ ?_ | with_reducible refine @And.intro (_ = false → _) (_ = true → _) ?_ ?_
  | (with_reducible refine And.intro ?k1 ?_; (case k1 => exact Nat.le_of_ble_eq_true rfl)))
local macro_rules | `(tactic| k_state_short () "gws") => `(tactic| first | exact gws_nil | (refine gws_cons gmono_name (gw_name (by decide)) ?_; k_state_short () "gws"))
local macro_rules | `(tactic| k_state_short () "gw") => `(tactic| first | exact gw_name (by decide) | (refine gw_tup ?_; k_state_short () "gws"))
local macro_rules | `(tactic| k_state_short () "d1") => `(tactic| first | k_state_short () "s1" | k_state_short () "e1" | k_state_short () "r1" | k_state_short () "x1")
local macro_rules | `(tactic| k_state_short () "d") => `(tactic| repeat k_state_short () "d1")
/-! ### two that are the same -/
def goodP : Nat → PyData → Prop
  | _, .none => True
  | _, .int _ => True
  | n + 1, .list xs => xs.length ≤ 1000 ∧ ∀ x ∈ xs, goodP n x
  | n + 1, .tuple xs => xs.length ≤ 1000 ∧ ∀ x ∈ xs, goodP n x
  | _, _ => False
def sp_same (n : Nat) : DSp := fun ds h Q _ => ∃ p, ds = [tupP p, tupP p] ∧ goodP n p ∧ Q (.bl true) h
theorem good_seq {n : Nat} {p : PyData} (g : goodP n p) : p = .none ∨ (∃ i, p = .int i) ∨ ∃ m xs, n = m + 1 ∧ seqP p = some xs ∧ xs.length ≤ 1000 ∧ ∀ x ∈ xs, goodP m x := by
  cases p with
  | none => exact .inl rfl
  | int i => exact .inr (.inl ⟨i, rfl⟩)
  | list xs => cases n with
    | zero => exact g.elim
    | succ n => exact .inr (.inr ⟨n, xs, rfl, rfl, g.1, g.2⟩)
  | tuple xs => cases n with
    | zero => exact g.elim
    | succ n => exact .inr (.inr ⟨n, xs, rfl, rfl, g.1, g.2⟩)
  | _ => cases n <;> exact g.elim
/-- at the bottom no call is made -/
def sp_none : DSp := fun _ _ _ _ => False
theorem pr_same {K : PySem.W.Frag} (n : Nat) (sp : DSp) (hsp : n = 0 ∨ ∃ m, n = m + 1 ∧ sp = sp_same m) : ∀ ds h QD QX, sp_same n ds h QD QX → dB K (t__law_same K sp) N__law_same ds h QD := by
  rintro ds h QD QX ⟨p, rfl, g, k⟩
  rcases good_seq g with rfl | ⟨i, rfl⟩ | ⟨m, xs, rfl, e, hz, ha⟩
  · simp only [tupP]
    k_state_short () "d"
    · intro hb
      k_state_short () "d"
      exact k
    · intro hb; cases hb
  · simp only [tupP]
    k_state_short () "d"
    · intro hb; cases hb
    intro _
    k_state_short () "d"
    rw [decide_eq_true rfl]
    exact k
  · rw [tupP_seq e]
    rcases hsp with hsp | ⟨m', e1, rfl⟩
    · cases hsp
    cases e1
    k_state_short () "d"
    · intro hb; cases hb
    intro _
    k_state_short () "d"
    · intro hb
      rw [decide_eq_true rfl] at hb; cases hb
    · intro _
      k_state_short () "d"
      refine e_lcM (by k_state_short () "gw") ?_
      refine i_zipT ?_
      k_state_short () "d"
      refine ⟨_, _, rfl, by rw [zipD_len, tupPs_len]; omega, trivial, (List.replicate xs.length true).map D.bl, by rw [zipD_len, tupPs_len, List.length_map, List.length_replicate]; omega, fun i d hd => ?_, ?_⟩
      · obtain ⟨a, b, ha1, hb1, rfl⟩ := zipD_get hd
        rw [ha1] at hb1; cases hb1
        have hi : i < xs.length := by
          have := (List.getElem?_eq_some_iff.mp ha1).1
          rw [tupPs_len] at this
          exact this
        have e3 := tupPs_get (show xs[i]? = some xs[i] by simp [hi])
        rw [ha1] at e3; cases e3
        k_state_short () "d"
        refine ⟨_, rfl, ha _ (List.getElem_mem hi), rfl, ?_⟩
        rw [List.getElem?_map, List.getElem?_replicate, if_pos hi]; rfl
      · k_state_short () "d"
        refine c_all (.frz _) ?_
        rw [show (List.replicate xs.length true).all id = true from List.all_eq_true.mpr fun x hx => (List.eq_of_mem_replicate hx)]
        exact k
/-! ### emptied -/
def isListAt (h : DH) (a : Addr) : Prop := ∃ ds, h a = some (.lst ds)
def Clr (S : Addr → Prop) (h h' : DH) : Prop := (∀ a, S a → h' a = h a) ∧ ∀ a, h' a = h a ∨ (isListAt h a ∧ h' a = some (.lst []))
theorem Clr.refl {S : Addr → Prop} {h : DH} : Clr S h h := ⟨fun _ _ => rfl, fun _ => .inl rfl⟩
theorem Clr.list {S : Addr → Prop} {h h' : DH} (c : Clr S h h') {a : Addr} (l : isListAt h a) : isListAt h' a := by
  rcases c.2 a with e | ⟨_, e⟩
  · obtain ⟨ds, q⟩ := l; exact ⟨ds, e.trans q⟩
  · exact ⟨[], e⟩
theorem Clr.trans {S : Addr → Prop} {h h1 h2 : DH} (a : Clr S h h1) (b : Clr S h1 h2) : Clr S h h2 := by
  refine ⟨fun q s => (b.1 q s).trans (a.1 q s), fun q => ?_⟩
  rcases b.2 q with e | ⟨l, e⟩
  · rcases a.2 q with e2 | ⟨l2, e2⟩
    · exact .inl (e.trans e2)
    · exact .inr ⟨l2, e.trans e2⟩
  · rcases a.2 q with e2 | ⟨l2, e2⟩
    · refine .inr ⟨?_, e⟩
      obtain ⟨ds, z⟩ := l
      exact ⟨ds, e2.symm.trans z⟩
    · exact .inr ⟨l2, e⟩
theorem Clr.one {S : Addr → Prop} {h : DH} {a : Addr} (l : isListAt h a) (n : ¬ S a) : Clr S h (dupd h a (.lst [])) := by
  refine ⟨fun q s => du_ne (fun e => n (e ▸ s)), fun q => ?_⟩
  by_cases e : q = a
  · subst e; exact .inr ⟨l, du_same⟩
  · exact .inl (du_ne e)
theorem Clr.weak {S S' : Addr → Prop} {h h' : DH} (c : Clr S' h h') (k : ∀ a, S a → S' a) : Clr S h h' := ⟨fun a s => c.1 a (k a s), c.2⟩
/-- a thing of a row: None, a tuple, a list that may be emptied -/
def ItemJ (S : Addr → Prop) (h : DH) (d : D) : Prop := d = .non ∨ (∃ ds, d = .tup ds) ∨ ∃ a, d = .ref a ∧ isListAt h a ∧ ¬ S a
def RowJ (S : Addr → Prop) (h : DH) (x : D) : Prop := (∃ ds, x = .tup ds ∧ ∀ d ∈ ds, ItemJ S h d) ∨ ∃ r ds, x = .ref r ∧ ¬ S r ∧ h r = some (.lst ds) ∧ ∀ d ∈ ds, ItemJ (fun a => S a ∨ a = r) h d
theorem ItemJ.clr {S S' : Addr → Prop} {h h' : DH} {d : D} (i : ItemJ S h d) (c : Clr S' h h') : ItemJ S h' d := by
  rcases i with e | e | ⟨a, e, l, n⟩
  · exact .inl e
  · exact .inr (.inl e)
  · exact .inr (.inr ⟨a, e, c.list l, n⟩)
theorem RowJ.clr {S S' : Addr → Prop} {h h' : DH} {x : D} (r : RowJ S h x) (c : Clr S' h h') : RowJ S h' x := by
  rcases r with ⟨ds, e, k⟩ | ⟨r, ds, e, n, hr, k⟩
  · exact .inl ⟨ds, e, fun d hd => (k d hd).clr c⟩
  · rcases c.2 r with e2 | ⟨_, e2⟩
    · exact .inr ⟨r, ds, e, n, e2.trans hr, fun d hd => (k d hd).clr c⟩
    · exact .inr ⟨r, [], e, n, e2, fun d hd => by cases hd⟩
def sp_emptied : DSp := fun ds h Q _ => ∃ (S : Addr → Prop) (x : D), ds = [x] ∧ RowJ S h x ∧ ∀ h', Clr S h h' → Q .non h'
theorem pr_emptied {K : PySem.W.Frag} : ∀ ds h QD QX, sp_emptied ds h QD QX → dB K (t__law_emptied K) N__law_emptied ds h QD := by
  rintro ds h QD QX ⟨S, x, rfl, hr, k⟩
  refine s_seq ?_
  refine s_for ?_
  have turn : ∀ (S' : Addr → Prop) (ds : List D) (i : Nat) (d : D) (h' : DH) (nx bk : DP) (rt : DK) (y : Option D), ItemJ S' h' d → (∀ h2, Clr S' h' h2 → nx [some x, some d] h2) → dS K (t__law_emptied_1 K) nx rt bk nx [some x, some d] h' := by
    intro S' ds i d h' nx bk rt y it q
    rcases it with rfl | ⟨es, rfl⟩ | ⟨a, rfl, ⟨es, la⟩, na⟩
    · k_state_short () "d"
      exact q h' .refl
    · k_state_short () "d"
      exact q h' .refl
    · k_state_short () "d"
      refine e_bmL0 ?_
      k_state_short () "d"
      refine ⟨es, .own la, ?_⟩
      refine m_clear la ?_
      exact q _ (.one ⟨es, la⟩ na)
  k_state_short () "d"
  rcases hr with ⟨ds, rfl, hi⟩ | ⟨r, ds, rfl, nr, hR, hi⟩
  · refine ⟨ds, .tup _, fun i δ' h' => ∃ y, δ' = [some (.tup ds), y] ∧ Clr S h h', ⟨_, rfl, .refl⟩, fun _ _ _ _ => .tup _, ?_, ?_⟩
    · rintro i d δ' h' hd ⟨y, rfl, c⟩
      refine g_name ?_
      exact turn S ds i d h' _ _ _ none ((hi d (List.mem_of_getElem? hd)).clr c) fun h2 c2 => ⟨_, rfl, c.trans c2⟩
    · rintro δ' h' ⟨y, rfl, c⟩
      k_state_short () "d"
      exact k h' c
  · refine ⟨ds, .lst (.own hR), fun i δ' h' => ∃ y, δ' = [some (.ref r), y] ∧ Clr (fun a => S a ∨ a = r) h h', ⟨_, rfl, .refl⟩, ?_, ?_, ?_⟩
    · rintro i δ' h' ⟨y, rfl, c⟩
      exact .lst (.own ((c.1 r (.inr rfl)).trans hR))
    · rintro i d δ' h' hd ⟨y, rfl, c⟩
      refine g_name ?_
      exact turn _ ds i d h' _ _ _ none ((hi d (List.mem_of_getElem? hd)).clr c) fun h2 c2 => ⟨_, rfl, c.trans c2⟩
    · rintro δ' h' ⟨y, rfl, c⟩
      have hR2 := (c.1 r (.inr rfl)).trans hR
      k_state_short () "d"
      refine e_bmL0 ?_
      k_state_short () "d"
      refine ⟨ds, .own hR2, ?_⟩
      refine m_clear hR2 ?_
      exact k _ ((c.weak fun a s => .inl s).trans (.one ⟨ds, hR2⟩ nr))
/-! ### a net's calendar -/
structure Way where
  a : Int
  b : Int
  r : Int
  t : Int
def Way.d (w : Way) : D := .tup [.int w.a, .int w.b, .int w.r, .int w.t]
theorem flat_rep {n : Nat} {d : D} : (List.replicate n [d]).flatten = List.replicate n d := by
  induction n with
  | zero => rfl
  | succ n ih => rw [List.replicate_succ, List.flatten_cons, ih]; rfl
def netD (many : Int) (ws : List Way) : D := .tup [.int many, .tup (ws.map Way.d)]
def sp_net_calendar : DSp := fun ds h Q _ => ∃ many ws last, ds = [netD many ws, .int last] ∧ (0 ≤ many ∧ many ≤ 6) ∧ (0 ≤ last ∧ last ≤ 12) ∧ ws.length ≤ 1000 ∧
  Q (.tup [.int many, .int last, .tup (ws.map fun w => .tup [.int w.a, .int w.b, .int w.t]), .tup (ws.map fun w => .tup (List.replicate (last + 1).toNat (.int w.r))), .tup (List.replicate many.toNat .non)]) h
theorem pr_net_calendar {K : PySem.W.Frag} : ∀ ds h QD QX, sp_net_calendar ds h QD QX → dB K (t_net_calendar K) N_net_calendar ds h QD := by
  rintro ds h QD QX ⟨many, ws, last, rfl, hm, hl, hz, k⟩
  unfold netD
  k_state_short () "d"
  refine e_lcM (by k_state_short () "gw") ?_
  k_state_short () "d"
  refine ⟨_, .tup _, by rw [List.length_map]; omega, .tup _, ws.map fun w => .tup [.int w.a, .int w.b, .int w.t], by rw [List.length_map, List.length_map], fun i d hd => ?_, ?_⟩
  · rw [List.getElem?_map] at hd
    obtain ⟨w, hw, rfl⟩ := Option.map_eq_some_iff.mp hd
    unfold Way.d
    k_state_short () "d"
    refine ⟨rfl, ?_⟩
    rw [List.getElem?_map, hw]; rfl
  k_state_short () "d"
  refine e_lcM (by k_state_short () "gw") ?_
  k_state_short () "d"
  refine ⟨_, .tup _, by rw [List.length_map]; omega, .tup _, ws.map fun w => .tup (List.replicate (last + 1).toNat (.int w.r)), by rw [List.length_map, List.length_map], fun i d hd => ?_, ?_⟩
  · rw [List.getElem?_map] at hd
    obtain ⟨w, hw, rfl⟩ := Option.map_eq_some_iff.mp hd
    unfold Way.d
    k_state_short () "d"
    refine r_mulT (by omega) (by intro z; cases z) (Nat.le_of_ble_eq_true rfl) ?_
    rw [flat_rep]
    refine ⟨rfl, ?_⟩
    rw [List.getElem?_map, hw]; rfl
  k_state_short () "d"
  refine r_mulT (by omega) (by intro z; cases z) (Nat.le_of_ble_eq_true rfl) ?_
  rw [flat_rep]
  k_state_short () "d"
  exact k
end Lw
set_option maxHeartbeats 400000
namespace Lw
open PySem PySem.Spec PyProof.Rows L2 DL
local macro_rules | `(tactic| k_state_short () "kit") => `(tactic| first | exact kt_None_int | exact kt_bool_int | exact kt_int_int | exact kt_str_int | exact kt_list_int | exact kt_tuple_int | exact kt_None_bool | exact kt_bool_bool | exact kt_int_bool | exact kt_str_bool | exact kt_list_bool | exact kt_tuple_bool | exact kt_None_list | exact kt_bool_list | exact kt_int_list | exact kt_str_list | exact kt_list_list | exact kt_tuple_list | exact kt_None_tuple | exact kt_bool_tuple | exact kt_int_tuple | exact kt_str_tuple | exact kt_list_tuple | exact kt_tuple_tuple | exact kt_None_str | exact kt_bool_str | exact kt_int_str | exact kt_str_str | exact kt_list_str | exact kt_tuple_str | exact kit_int _ | exact kit_bool _ | exact kit_list _ | exact kit_tuple _ | exact kit_str _ | assumption)
local macro_rules | `(tactic| k_state_short () "look") => `(tactic| first | assumption | exact du_same | (refine (du_ne (by first | assumption | exact Ne.symm (by assumption))).trans ?_; k_state_short () "look"))
local macro_rules | `(tactic| k_state_short () "iss") => `(tactic| first | assumption | exact IsS.tup _ | exact IsS.lst (IsL.frz _) | exact IsS.lst (IsL.rd _) | exact IsS.lst (IsL.own (by k_state_short () "look")) )
local macro_rules | `(tactic| k_state_short () "isl") => `(tactic| first | assumption | exact IsL.frz _ | exact IsL.rd _ | exact IsL.own (by k_state_short () "look"))
local macro_rules | `(tactic| k_state_short () "ism") => `(tactic| first | exact IsM.frz _ | exact IsM.own (by k_state_short () "look"))
local macro_rules | `(tactic| k_state_short () "cmul") => `(tactic| first | exact Or.inl ⟨by omega, by omega⟩ | exact Or.inr ⟨by omega, by omega⟩)
local macro_rules | `(tactic| k_state_short () "tru") => `(tactic| first | exact Tru.bl _ | exact Tru.non | exact Tru.int _ | exact Tru.tup _ | exact Tru.lst (by k_state_short () "isl"))
local macro_rules | `(tactic| k_state_short () "tyn") => `(tactic| first | exact TyN.bl _ | exact TyN.non | exact TyN.int _ | exact TyN.str _ | exact TyN.tup _ | exact tyn_of (by assumption) | exact TyN.lst (by k_state_short () "isl"))
local macro_rules | `(tactic| k_state_short () "s1") => `(tactic| with_reducible first
  | refine s_seq ?_ | refine s_asg ?_ | refine s_if ?_ | refine s_ret ?_ | refine s_drop ?_ | refine s_retN ?_ | refine s_next ?_ | refine s_brk ?_ | refine s_cont ?_)
local macro_rules | `(tactic| k_state_short () "e1") => `(tactic| first
  | with_reducible refine e_op ?_ | ((with_reducible refine' e_var ?k1 ?_); (case k1 => rfl)) | with_reducible refine e_int ?_ | with_reducible refine e_bl ?_ | with_reducible refine e_non ?_ | with_reducible refine e_str ?_ | with_reducible refine e_ty ?_
  | with_reducible refine e_tup ?_ | (with_reducible refine e_isi2 ?_) | with_reducible refine e_cb ?_ | with_reducible refine a_cons ?_ | with_reducible refine a_nil ?_ | with_reducible refine e_call ?_ | with_reducible refine e_then ?_
  | with_reducible refine e_if ?_ | with_reducible refine e_andT ?_ | with_reducible refine e_orT ?_ | with_reducible refine e_notT ?_ | with_reducible refine e_chain ?_
  | with_reducible refine t_test ?_ | with_reducible refine t_tru ?_ | with_reducible refine t_not ?_ | with_reducible refine t_and ?_ | with_reducible refine t_or ?_ | with_reducible refine t_yes ?_ | with_reducible refine i_seq ?_ | with_reducible refine i_rng1 ?_ | with_reducible refine i_rng2 ?_)
local macro_rules | `(tactic| k_state_short () "r1") => `(tactic| first
  | ((with_reducible refine' r_ix ?k1 ?k2 ?_); (case k1 => k_state_short () "iss"); (case k2 => rfl))
  | with_reducible refine r_addI ?_ | with_reducible refine r_subI ?_ | with_reducible refine r_ltI ?_ | with_reducible refine r_leI ?_ | with_reducible refine r_gtI ?_ | with_reducible refine r_geI ?_ | with_reducible refine r_eqII ?_ | with_reducible refine r_neII ?_ | with_reducible refine r_isN ?_ | with_reducible refine r_notN ?_
  | ((with_reducible refine' r_modI ?k1 ?_); (case k1 => first | omega | decide)) | ((with_reducible refine' r_divI ?k1 ?k2 ?_); (case k1 => omega); (case k2 => omega)) | ((with_reducible refine' r_mulI ?k1 ?_); (case k1 => k_state_short () "cmul")) | ((with_reducible refine' r_powI ?k1 ?_); (case k1 => decide))
  | ((with_reducible refine' c_lenX ?k1 ?_); (case k1 => k_state_short () "iss")) | with_reducible refine c_absX ?_ | with_reducible refine c_maxX ?_ | with_reducible refine c_minX ?_ | with_reducible refine c_intX ?_
  | ((with_reducible refine' c_isi ?k1 ?k2 ?_); (case k1 => k_state_short () "tyn"); (case k2 => k_state_short () "kit"))
  | ((with_reducible refine' u_tuple ?k1 ?_); (case k1 => k_state_short () "iss"))
  | with_reducible refine g_name ?_ | with_reducible refine g_setL ?_ | ((with_reducible refine' g_tup ?k1 ?_); (case k1 => rfl)) | with_reducible refine g_cons ?_ | with_reducible refine g_nil ?_)
local macro_rules | `(tactic| k_state_short () "x1") => `(tactic| first
  | ((with_reducible refine' ⟨_, _, _, _, rfl, rfl, ?k1, ?k2, ?_⟩); (case k1 => k_state_short () "look"); (case k2 => rfl))
  | ((with_reducible refine' ⟨_, _, _, ?k1, ?k2, ?k3, ?_⟩); (case k1 => k_state_short () "tyn"); (case k2 => k_state_short () "kit"); (case k3 => k_state_short () "kit"))
  | ((with_reducible refine' ⟨_, rfl, ?k1, ?_⟩); (case k1 => with_reducible (refine And.intro ?_ ?_) <;> omega))
  | with_reducible refine ⟨_, rfl, ?_⟩
  | ((with_reducible refine' ⟨_, ?k1, ?_⟩); (case k1 => k_state_short () "tru"))
  | with_reducible refine And.intro (fun (_ : true = true) => ?_) (fun (e : true = false) => Bool.noConfusion e) | with_reducible refine And.intro (fun (e : false = true) => Bool.noConfusion e) (fun (_ : false = false) => ?_)
  | with_reducible refine And.intro (fun (e : true = false) => Bool.noConfusion e) (fun (_ : true = true) => ?_) | with_reducible refine And.intro (fun (_ : false = false) => ?_) (fun (e : false = true) => Bool.noConfusion e)
  | with_reducible refine And.intro (fun (e : (!true) = true) => (nt_t e).elim) (fun (_ : (!true) = false) => ?_) | with_reducible refine And.intro (fun (_ : (!false) = true) => ?_) (fun (e : (!false) = false) => (nf_f e).elim)
  | with_reducible refine And.intro (fun (_ : (!true) = false) => ?_) (fun (e : (!true) = true) => (nt_t e).elim) | with_reducible refine And.intro (fun (e : (!false) = false) => (nf_f e).elim) (fun (_ : (!false) = true) => ?_)
  | with_reducible refine @And.intro (_ = true → _) (_ = false → _) ?_ ?_ | with_reducible refine @And.intro (_ = false → _) (_ = true → _) ?_ ?_
  | (with_reducible refine And.intro ?k1 ?_; (case k1 => exact Nat.le_of_ble_eq_true rfl)))
local macro_rules | `(tactic| k_state_short () "gws") => `(tactic| first | exact gws_nil | (refine gws_cons gmono_name (gw_name (by decide)) ?_; k_state_short () "gws"))
local macro_rules | `(tactic| k_state_short () "gw") => `(tactic| first | exact gw_name (by decide) | (refine gw_tup ?_; k_state_short () "gws"))
local macro_rules | `(tactic| k_state_short () "d1") => `(tactic| first | k_state_short () "s1" | k_state_short () "e1" | k_state_short () "r1" | k_state_short () "x1")
local macro_rules | `(tactic| k_state_short () "d") => `(tactic| repeat k_state_short () "d1")
/-! ### pairs of lists -/
theorem paired_get {α β : Type} {R : α → β → Prop} : ∀ {xs : List α} {ys : List β} {i : Nat} {x : α}, Paired R xs ys → xs[i]? = some x → ∃ y, ys[i]? = some y ∧ R x y
  | _, _, _, _, .nil, e => by simp at e
  | _, _, 0, _, .cons a _, e => by simp at e; subst e; exact ⟨_, rfl, a⟩
  | _, _, i + 1, _, .cons _ r, e => by
    obtain ⟨p, h1, h2⟩ := paired_get (i := i) r (by simpa using e)
    exact ⟨p, by simpa using h1, h2⟩
theorem paired_getR {α β : Type} {R : α → β → Prop} : ∀ {xs : List α} {ys : List β} {i : Nat} {y : β}, Paired R xs ys → ys[i]? = some y → ∃ x, xs[i]? = some x ∧ R x y
  | _, _, _, _, .nil, e => by simp at e
  | _, _, 0, _, .cons a _, e => by simp at e; subst e; exact ⟨_, rfl, a⟩
  | _, _, i + 1, _, .cons _ r, e => by
    obtain ⟨p, h1, h2⟩ := paired_getR (i := i) r (by simpa using e)
    exact ⟨p, by simpa using h1, h2⟩
theorem paired_snoc {α β : Type} {R : α → β → Prop} {x : α} {y : β} (h : R x y) : ∀ {xs : List α} {ys : List β}, Paired R xs ys → Paired R (xs ++ [x]) (ys ++ [y])
  | _, _, .nil => .cons h .nil
  | _, _, .cons a r => .cons a (paired_snoc h r)
theorem paired_memR {α β : Type} {R : α → β → Prop} {xs : List α} {ys : List β} {y : β} (p : Paired R xs ys) (h : y ∈ ys) : ∃ x ∈ xs, R x y := by
  obtain ⟨i, hi⟩ := List.getElem?_of_mem h
  obtain ⟨x, h1, h2⟩ := paired_getR p hi
  exact ⟨x, List.mem_of_getElem? h1, h2⟩
theorem take_snoc {α : Type} {xs : List α} {i : Nat} {x : α} (e : xs[i]? = some x) : xs.take (i + 1) = xs.take i ++ [x] := by
  rw [List.take_add_one, e]; rfl
/-! ### what is handed in -/
/-- alike, but for lists and tuples -/
structure Sm (q q' : PyData) : Prop where
  s : seqP q = seqP q'
  n : isNoneP q = isNoneP q'
  t : tupP q = tupP q'
theorem sm_row {q q' : PyData} {qs : List PyData} (e : seqP q = some qs) (e' : seqP q' = some qs) : Sm q q' :=
  ⟨e.trans e'.symm, (by cases q <;> cases q' <;> first | rfl | (cases e; done) | (cases e'; done)), by rw [tupP_seq e, tupP_seq e']⟩
theorem sm_none : Sm .none .none := ⟨rfl, rfl, rfl⟩
def SmR (s : List PyData) (p : PyData) : Prop := ∃ l, seqP p = some l ∧ Paired Sm s l
theorem sm_tups : ∀ {s l : List PyData}, Paired Sm s l → tupPs s = tupPs l
  | _, _, .nil => rfl
  | _, _, .cons a r => by show tupP _ :: tupPs _ = tupP _ :: tupPs _; rw [a.t, sm_tups r]
theorem SmR.tup {s : List PyData} {p : PyData} (r : SmR s p) : tupP p = tupP (.list s) := by
  obtain ⟨l, e, h⟩ := r
  rw [tupP_seq e, tupP_seq (p := .list s) rfl, sm_tups h]
theorem dpys_atoms {h : DH} : ∀ {qs : List PyData}, qs.all atomP = true → DPys h (tupPs qs) qs
  | [], _ => .nil
  | q :: qs, e => by
    rw [List.all_cons, Bool.and_eq_true] at e
    refine .cons ?_ (dpys_atoms e.2)
    cases q <;> first | exact .non | exact .bl _ | exact .int _ | exact .str _ | cases e.1
def ItemH (S : Addr → Prop) (h : DH) (d : D) (q : PyData) : Prop :=
  (d = .non ∧ q = .none) ∨ ∃ qs, qs.all atomP = true ∧ ((d = .tup (tupPs qs) ∧ q = .tuple qs) ∨ ∃ a, d = .ref a ∧ q = .list qs ∧ ¬ S a ∧ h a = some (.lst (tupPs qs)))
def RowH (S : Addr → Prop) (h : DH) (x : D) (q : PyData) : Prop := ∃ ds qs, (x = .tup ds ∧ q = .tuple qs ∧ Paired (ItemH S h) ds qs) ∨ ∃ r, x = .ref r ∧ q = .list qs ∧ ¬ S r ∧ h r = some (.lst ds) ∧ Paired (ItemH (fun a => S a ∨ a = r) h) ds qs
theorem ItemH.mono {S : Addr → Prop} {h h' : DH} {d : D} {q : PyData} (i : ItemH S h d q) (k : ∀ a o, ¬ S a → h a = some o → h' a = some o) : ItemH S h' d q := by
  rcases i with e | ⟨qs, a, e | ⟨b, e1, e2, n, e3⟩⟩
  · exact .inl e
  · exact .inr ⟨qs, a, .inl e⟩
  · exact .inr ⟨qs, a, .inr ⟨b, e1, e2, n, k b _ n e3⟩⟩
theorem RowH.mono {S : Addr → Prop} {h h' : DH} {d : D} {q : PyData} (i : RowH S h d q) (k : ∀ a o, ¬ S a → h a = some o → h' a = some o) : RowH S h' d q := by
  obtain ⟨ds, qs, ⟨e1, e2, p⟩ | ⟨r, e1, e2, n, hr, p⟩⟩ := i
  · exact ⟨ds, qs, .inl ⟨e1, e2, Paired.imp2 (fun _ _ z => z.mono k) p⟩⟩
  · exact ⟨ds, qs, .inr ⟨r, e1, e2, n, k r _ n hr, Paired.imp2 (fun _ _ z => z.mono fun a o m => k a o fun s => m (.inl s)) p⟩⟩
theorem ItemH.dpy {S : Addr → Prop} {h : DH} {d : D} {q : PyData} (i : ItemH S h d q) : DPy h d q := by
  rcases i with ⟨rfl, rfl⟩ | ⟨qs, a, ⟨rfl, rfl⟩ | ⟨b, rfl, rfl, n, e3⟩⟩
  · exact .non
  · exact .tup (dpys_atoms a)
  · exact .lst (.own e3) (dpys_atoms a)
theorem items_dpy {S : Addr → Prop} {h : DH} : ∀ {ds : List D} {qs : List PyData}, Paired (ItemH S h) ds qs → DPys h ds qs
  | _, _, .nil => .nil
  | _, _, .cons a r => .cons a.dpy (items_dpy r)
theorem RowH.dpy {S : Addr → Prop} {h : DH} {d : D} {q : PyData} (i : RowH S h d q) : DPy h d q := by
  obtain ⟨ds, qs, ⟨rfl, rfl, p⟩ | ⟨r, rfl, rfl, n, hr, p⟩⟩ := i
  · exact .tup (items_dpy p)
  · exact .lst (.own hr) (items_dpy p)
theorem ItemH.j {S : Addr → Prop} {h : DH} {d : D} {q : PyData} (i : ItemH S h d q) : ItemJ S h d := by
  rcases i with ⟨rfl, rfl⟩ | ⟨qs, a, ⟨rfl, rfl⟩ | ⟨b, rfl, rfl, n, e3⟩⟩
  · exact .inl rfl
  · exact .inr (.inl ⟨_, rfl⟩)
  · exact .inr (.inr ⟨b, rfl, ⟨_, e3⟩, n⟩)
theorem RowH.j {S : Addr → Prop} {h : DH} {d : D} {q : PyData} (i : RowH S h d q) : RowJ S h d := by
  have g : ∀ {S : Addr → Prop} {ds : List D} {qs : List PyData}, Paired (ItemH S h) ds qs → ∀ d ∈ ds, ItemJ S h d := by
    intro S ds qs p d hd
    obtain ⟨i, hi⟩ := List.getElem?_of_mem hd
    obtain ⟨q, _, z⟩ := paired_get p hi
    exact z.j
  obtain ⟨ds, qs, ⟨rfl, rfl, p⟩ | ⟨r, rfl, rfl, n, hr, p⟩⟩ := i
  · exact .inl ⟨ds, rfl, g p⟩
  · exact .inr ⟨r, ds, rfl, n, hr, g p⟩
/-- what the law hands on: None, or a row of atoms -/
def SrcI (d : D) (q : PyData) : Prop := (d = .non ∧ q = .none) ∨ ∃ qs, seqP q = some qs ∧ qs.all atomP = true ∧ (d = .tup (tupPs qs) ∨ d = .lst (tupPs qs))
def SrcL (d : D) (s : List PyData) : Prop := ∃ ds, d = .lst ds ∧ Paired SrcI ds s ∧ s.length ≤ 1000
theorem src_len {α β : Type} {R : α → β → Prop} {xs : List α} {ys : List β} (p : Paired R xs ys) : xs.length = ys.length := Paired.length p
/-! ### what is right -/
theorem sm_road {many : Int} {q q' : PyData} (s : Sm q q') : roadP many q = roadP many q' := by unfold roadP; rw [s.s]
theorem sm_hourly {n : Int} {q q' : PyData} (s : Sm q q') : hourlyP n q = hourlyP n q' := by unfold hourlyP listedP; rw [s.s]
theorem sm_all {f : PyData → Bool} (hf : ∀ q q', Sm q q' → f q = f q') {s l : List PyData} (p : Paired Sm s l) (h : ∀ q ∈ s, f q = true) : l.all f = true := by
  rw [List.all_eq_true]
  intro y hy
  obtain ⟨x, hx, sm⟩ := paired_memR p hy
  rw [← hf _ _ sm]
  exact h x hx
theorem within_of {lo hi i : Int} (h : lo ≤ i ∧ i ≤ hi) : withinP lo hi (.int i) = true := by
  show (decide (lo ≤ i) && decide (i ≤ hi)) = true
  rw [decide_eq_true h.1, decide_eq_true h.2]; rfl
theorem road_ok {many : Int} {w : Road} (o : w.ok many) : roadP many w.p = true := by
  show (withinP 0 (many - 1) (.int w.a) && (withinP 0 (many - 1) (.int w.b) && (!decide (w.a = w.b) && withinP 1 1000000 (.int w.t)))) = true
  rw [within_of ⟨o.a.1, by have := o.a.2; omega⟩, within_of ⟨o.b.1, by have := o.b.2; omega⟩, within_of o.t, decide_eq_false o.ne]; rfl
theorem roads_ok {many : Int} {ws : List Road} {p : PyData} (r : SmR (ws.map Road.p) p) (hz : ws.length ≤ 12) (ho : ∀ w ∈ ws, w.ok many) : roadsP many p = true := by
  obtain ⟨l, e, h⟩ := r
  have hl := Paired.length h
  rw [List.length_map] at hl
  unfold roadsP
  rw [e]
  show (decide (l.length ≤ 12) && l.all (roadP many)) = true
  rw [decide_eq_true (by omega : l.length ≤ 12), Bool.true_and]
  refine sm_all (fun q q' s => sm_road s) h fun q hq => ?_
  obtain ⟨w, hw, rfl⟩ := List.mem_map.mp hq
  exact road_ok (ho w hw)
def rowP (r : List Int) : PyData := .list (r.map PyData.int)
theorem hourly_ok {n : Int} {r : List Int} (e : (r.length : Int) = n) (h : ∀ x ∈ r, 0 ≤ x ∧ x ≤ 1000000000) : hourlyP n (rowP r) = true := by
  have e1 : listedP n (rowP r) = true := by
    rw [listed_seq (ps := r.map PyData.int) rfl]
    exact decide_eq_true (by rw [List.length_map]; exact e)
  unfold hourlyP
  rw [e1]
  show (true && (r.map PyData.int).all (withinP 0 1000000000)) = true
  rw [Bool.true_and, List.all_eq_true]
  intro q hq
  obtain ⟨x, hx, rfl⟩ := List.mem_map.mp hq
  exact within_of (h x hx)
theorem rooms_ok {rs : List (List Int)} {p : PyData} {n last : Int} (r : SmR (rs.map rowP) p) (hn : (rs.length : Int) = n) (h : ∀ x ∈ rs, (x.length : Int) = last + 1 ∧ ∀ y ∈ x, 0 ≤ y ∧ y ≤ 1000000000) : roomsP n last p = true := by
  obtain ⟨l, e, hp⟩ := r
  have hl := Paired.length hp
  rw [List.length_map] at hl
  have e1 : listedP n p = true := by
    rw [listed_seq e]
    exact decide_eq_true (by omega)
  unfold roomsP
  rw [e1, e]
  show (true && l.all (hourlyP (last + 1))) = true
  rw [Bool.true_and]
  refine sm_all (fun q q' s => sm_hourly s) hp fun q hq => ?_
  obtain ⟨w, hw, rfl⟩ := List.mem_map.mp hq
  exact hourly_ok (h w hw).1 (h w hw).2
theorem waits_ok {s : List PyData} {p : PyData} {many last : Int} (r : SmR s p) (hn : (s.length : Int) = many) (hm : 1 ≤ many) (h0 : s.getD 0 .none = .none) (h1 : s.getD (many - 1).toNat .none = .none)
    (h : ∀ q ∈ s, (isNoneP q || hourlyP last q) = true) : waitsP many last p = true := by
  obtain ⟨l, e, hp⟩ := r
  have hl := Paired.length hp
  have e1 : listedP many p = true := by
    rw [listed_seq e]
    exact decide_eq_true (by omega)
  have g : ∀ i : Nat, (s.getD i .none = .none) → isNoneP (l.getD i .none) = true := by
    intro i hi
    rw [List.getD_eq_getElem?_getD] at hi ⊢
    cases q : l[i]? with
    | none => rfl
    | some y =>
      obtain ⟨x, hx, sm⟩ := paired_getR hp q
      rw [hx] at hi
      have hi : x = .none := hi
      subst hi
      exact sm.n.symm.trans rfl
  unfold waitsP
  rw [e1, e]
  show (true && (isNoneP (l.getD 0 .none) && (isNoneP (l.getD (many - 1).toNat .none) && l.all (fun q => isNoneP q || hourlyP last q)))) = true
  rw [g 0 h0, g _ h1]
  exact sm_all (f := fun q => isNoneP q || hourlyP last q) (fun q q' s => by show (isNoneP q || hourlyP last q) = (isNoneP q' || hourlyP last q'); rw [s.n, sm_hourly s]) hp h
/-! ### as tuples -/
theorem norm_atoms : ∀ {qs : List PyData}, qs.all atomP = true → normPs qs = qs
  | [], _ => rfl
  | q :: qs, e => by
    rw [List.all_cons, Bool.and_eq_true] at e
    show normP q :: normPs qs = _
    rw [norm_atoms e.2]
    cases q <;> first | rfl | cases e.1
theorem src_norm {d : D} {q : PyData} (i : SrcI d q) : Sm q (normP q) := by
  rcases i with ⟨_, rfl⟩ | ⟨qs, e, a, _⟩
  · exact sm_none
  · refine sm_row e ?_
    cases q <;> first | (cases e; exact congrArg some (norm_atoms a)) | cases e
theorem srcs_norm : ∀ {ds : List D} {s : List PyData}, Paired SrcI ds s → Paired Sm s (normPs s)
  | _, _, .nil => .nil
  | _, _, .cons a r => .cons (src_norm a) (srcs_norm r)
theorem SrcL.norm {d : D} {s : List PyData} (l : SrcL d s) : SmR s (normP (.list s)) := by
  obtain ⟨ds, _, p, _⟩ := l
  exact ⟨normPs s, rfl, srcs_norm p⟩
/-- what is flat: good data -/
structure Flat2 (s : List PyData) : Prop where
  z : s.length ≤ 1000
  r : ∀ q ∈ s, q = .none ∨ ∃ qs, seqP q = some qs ∧ qs.length ≤ 1000 ∧ ∀ x ∈ qs, ∃ i, x = PyData.int i
theorem flat_good {s : List PyData} (f : Flat2 s) : goodP 2 (.list s) := by
  refine ⟨f.z, fun q hq => ?_⟩
  rcases f.r q hq with rfl | ⟨qs, e, hz, hi⟩
  · exact trivial
  · have g : ∀ x ∈ qs, goodP 0 x := fun x hx => by
      obtain ⟨i, rfl⟩ := hi x hx
      exact trivial
    cases q <;> first | (cases e; exact ⟨hz, g⟩) | cases e
theorem ints_lay : ∀ {qs : List PyData}, (∀ x ∈ qs, ∃ i, x = PyData.int i) → PyData.canLayAll0 (normPs qs) = true ∧ PyData.depthAll (normPs qs) = 0
  | [], _ => ⟨rfl, rfl⟩
  | q :: qs, h => by
    obtain ⟨i, rfl⟩ := h q (List.mem_cons_self)
    obtain ⟨h1, h2⟩ := ints_lay fun x hx => h x (List.mem_cons_of_mem _ hx)
    show (PyData.canLay0 (.int i) && PyData.canLayAll0 (normPs qs)) = true ∧ max (PyData.depth (.int i)) (PyData.depthAll (normPs qs)) = 0
    rw [h1, h2]
    exact ⟨rfl, rfl⟩
theorem rows_lay : ∀ {s : List PyData}, (∀ q ∈ s, q = .none ∨ ∃ qs, seqP q = some qs ∧ qs.length ≤ 1000 ∧ ∀ x ∈ qs, ∃ i, x = PyData.int i) → PyData.canLayAll0 (normPs s) = true ∧ PyData.depthAll (normPs s) ≤ 1
  | [], _ => ⟨rfl, Nat.zero_le _⟩
  | q :: s, h => by
    obtain ⟨h1, h2⟩ := rows_lay fun x hx => h x (List.mem_cons_of_mem _ hx)
    have g : PyData.canLay0 (normP q) = true ∧ PyData.depth (normP q) ≤ 1 := by
      rcases h q (List.mem_cons_self) with rfl | ⟨qs, e, _, hi⟩
      · exact ⟨rfl, Nat.zero_le _⟩
      · obtain ⟨k1, k2⟩ := ints_lay hi
        cases q <;> first | (cases e; exact ⟨k1, by show PyData.depthAll (normPs qs) + 1 ≤ 1; rw [k2]; exact Nat.le_refl _⟩) | cases e
    refine ⟨?_, ?_⟩
    · show (PyData.canLay0 (normP q) && PyData.canLayAll0 (normPs s)) = true
      rw [g.1, h1]; rfl
    · show max (PyData.depth (normP q)) (PyData.depthAll (normPs s)) ≤ 1
      have := g.2
      omega
theorem flat_lay {s : List PyData} (f : Flat2 s) : PyData.canLay0 (normP (.list s)) = true ∧ PyData.depth (normP (.list s)) ≤ 2 := by
  obtain ⟨h1, h2⟩ := rows_lay f.r
  exact ⟨h1, Nat.succ_le_succ h2⟩
theorem three_shaped {s0 s1 s2 : List PyData} (f0 : Flat2 s0) (f1 : Flat2 s1) (f2 : Flat2 s2) : SeqAt.shaped (.list (normPs [.list s0, .list s1, .list s2])) = true := by
  obtain ⟨a0, b0⟩ := flat_lay f0
  obtain ⟨a1, b1⟩ := flat_lay f1
  obtain ⟨a2, b2⟩ := flat_lay f2
  unfold SeqAt.shaped
  rw [Bool.and_eq_true]
  refine ⟨?_, decide_eq_true ?_⟩
  · show (PyData.canLay0 (normP (.list s0)) && (PyData.canLay0 (normP (.list s1)) && (PyData.canLay0 (normP (.list s2)) && true))) = true
    rw [a0, a1, a2]; rfl
  · show max (PyData.depth (normP (.list s0))) (max (PyData.depth (normP (.list s1))) (max (PyData.depth (normP (.list s2))) 0)) + 1 ≤ 64
    omega
theorem eqv_self {p : PyData} (h : SeqAt.shaped p = true) : PyData.eqv p p = true := SeqAt.eqv_refl p (SeqAt.canLay_of_shaped h)
end Lw
set_option maxHeartbeats 400000
namespace Lw
open PySem PySem.Spec PyProof.Rows L2 DL
local macro_rules | `(tactic| k_state_short () "kit") => `(tactic| first | exact kt_None_int | exact kt_bool_int | exact kt_int_int | exact kt_str_int | exact kt_list_int | exact kt_tuple_int | exact kt_None_bool | exact kt_bool_bool | exact kt_int_bool | exact kt_str_bool | exact kt_list_bool | exact kt_tuple_bool | exact kt_None_list | exact kt_bool_list | exact kt_int_list | exact kt_str_list | exact kt_list_list | exact kt_tuple_list | exact kt_None_tuple | exact kt_bool_tuple | exact kt_int_tuple | exact kt_str_tuple | exact kt_list_tuple | exact kt_tuple_tuple | exact kt_None_str | exact kt_bool_str | exact kt_int_str | exact kt_str_str | exact kt_list_str | exact kt_tuple_str | exact kit_int _ | exact kit_bool _ | exact kit_list _ | exact kit_tuple _ | exact kit_str _ | assumption)
local macro_rules | `(tactic| k_state_short () "look") => `(tactic| first | assumption | exact du_same | (refine (du_ne (by first | assumption | exact Ne.symm (by assumption))).trans ?_; k_state_short () "look"))
local macro_rules | `(tactic| k_state_short () "iss") => `(tactic| first | assumption | exact IsS.tup _ | exact IsS.lst (IsL.frz _) | exact IsS.lst (IsL.rd _) | exact IsS.lst (IsL.own (by k_state_short () "look")) )
local macro_rules | `(tactic| k_state_short () "isl") => `(tactic| first | assumption | exact IsL.frz _ | exact IsL.rd _ | exact IsL.own (by k_state_short () "look"))
local macro_rules | `(tactic| k_state_short () "ism") => `(tactic| first | exact IsM.frz _ | exact IsM.own (by k_state_short () "look"))
local macro_rules | `(tactic| k_state_short () "cmul") => `(tactic| first | exact Or.inl ⟨by omega, by omega⟩ | exact Or.inr ⟨by omega, by omega⟩)
local macro_rules | `(tactic| k_state_short () "tru") => `(tactic| first | exact Tru.bl _ | exact Tru.non | exact Tru.int _ | exact Tru.tup _ | exact Tru.lst (by k_state_short () "isl"))
local macro_rules | `(tactic| k_state_short () "tyn") => `(tactic| first | exact TyN.bl _ | exact TyN.non | exact TyN.int _ | exact TyN.str _ | exact TyN.tup _ | exact tyn_of (by assumption) | exact TyN.lst (by k_state_short () "isl"))
local macro_rules | `(tactic| k_state_short () "s1") => `(tactic| with_reducible first
  | refine s_seq ?_ | refine s_asg ?_ | refine s_if ?_ | refine s_ret ?_ | refine s_drop ?_ | refine s_retN ?_ | refine s_next ?_ | refine s_brk ?_ | refine s_cont ?_)
local macro_rules | `(tactic| k_state_short () "e1") => `(tactic| first
  | with_reducible refine e_op ?_ | ((with_reducible refine' e_var ?k1 ?_); (case k1 => rfl)) | with_reducible refine e_int ?_ | with_reducible refine e_bl ?_ | with_reducible refine e_non ?_ | with_reducible refine e_str ?_ | with_reducible refine e_ty ?_
  | with_reducible refine e_tup ?_ | (with_reducible refine e_isi2 ?_) | with_reducible refine e_cb ?_ | with_reducible refine a_cons ?_ | with_reducible refine a_nil ?_ | with_reducible refine e_call ?_ | with_reducible refine e_then ?_
  | with_reducible refine e_if ?_ | with_reducible refine e_andT ?_ | with_reducible refine e_orT ?_ | with_reducible refine e_notT ?_ | with_reducible refine e_chain ?_
  | with_reducible refine t_test ?_ | with_reducible refine t_tru ?_ | with_reducible refine t_not ?_ | with_reducible refine t_and ?_ | with_reducible refine t_or ?_ | with_reducible refine t_yes ?_ | with_reducible refine i_seq ?_ | with_reducible refine i_rng1 ?_ | with_reducible refine i_rng2 ?_)
local macro_rules | `(tactic| k_state_short () "r1") => `(tactic| first
  | ((with_reducible refine' r_ix ?k1 ?k2 ?_); (case k1 => k_state_short () "iss"); (case k2 => rfl))
  | with_reducible refine r_addI ?_ | with_reducible refine r_subI ?_ | with_reducible refine r_ltI ?_ | with_reducible refine r_leI ?_ | with_reducible refine r_gtI ?_ | with_reducible refine r_geI ?_ | with_reducible refine r_eqII ?_ | with_reducible refine r_neII ?_ | with_reducible refine r_isN ?_ | with_reducible refine r_notN ?_
  | ((with_reducible refine' r_modI ?k1 ?_); (case k1 => first | omega | decide)) | ((with_reducible refine' r_divI ?k1 ?k2 ?_); (case k1 => omega); (case k2 => omega)) | ((with_reducible refine' r_mulI ?k1 ?_); (case k1 => k_state_short () "cmul")) | ((with_reducible refine' r_powI ?k1 ?_); (case k1 => decide))
  | ((with_reducible refine' c_lenX ?k1 ?_); (case k1 => k_state_short () "iss")) | with_reducible refine c_absX ?_ | with_reducible refine c_maxX ?_ | with_reducible refine c_minX ?_ | with_reducible refine c_intX ?_
  | ((with_reducible refine' c_isi ?k1 ?k2 ?_); (case k1 => k_state_short () "tyn"); (case k2 => k_state_short () "kit"))
  | ((with_reducible refine' u_tuple ?k1 ?_); (case k1 => k_state_short () "iss"))
  | with_reducible refine g_name ?_ | with_reducible refine g_setL ?_ | ((with_reducible refine' g_tup ?k1 ?_); (case k1 => rfl)) | with_reducible refine g_cons ?_ | with_reducible refine g_nil ?_)
local macro_rules | `(tactic| k_state_short () "x1") => `(tactic| first
  | ((with_reducible refine' ⟨_, _, _, _, rfl, rfl, ?k1, ?k2, ?_⟩); (case k1 => k_state_short () "look"); (case k2 => rfl))
  | ((with_reducible refine' ⟨_, _, _, ?k1, ?k2, ?k3, ?_⟩); (case k1 => k_state_short () "tyn"); (case k2 => k_state_short () "kit"); (case k3 => k_state_short () "kit"))
  | ((with_reducible refine' ⟨_, rfl, ?k1, ?_⟩); (case k1 => with_reducible (refine And.intro ?_ ?_) <;> omega))
  | with_reducible refine ⟨_, rfl, ?_⟩
  | ((with_reducible refine' ⟨_, ?k1, ?_⟩); (case k1 => k_state_short () "tru"))
  | with_reducible refine And.intro (fun (_ : true = true) => ?_) (fun (e : true = false) => Bool.noConfusion e) | with_reducible refine And.intro (fun (e : false = true) => Bool.noConfusion e) (fun (_ : false = false) => ?_)
  | with_reducible refine And.intro (fun (e : true = false) => Bool.noConfusion e) (fun (_ : true = true) => ?_) | with_reducible refine And.intro (fun (_ : false = false) => ?_) (fun (e : false = true) => Bool.noConfusion e)
  | with_reducible refine And.intro (fun (e : (!true) = true) => (nt_t e).elim) (fun (_ : (!true) = false) => ?_) | with_reducible refine And.intro (fun (_ : (!false) = true) => ?_) (fun (e : (!false) = false) => (nf_f e).elim)
  | with_reducible refine And.intro (fun (_ : (!true) = false) => ?_) (fun (e : (!true) = true) => (nt_t e).elim) | with_reducible refine And.intro (fun (e : (!false) = false) => (nf_f e).elim) (fun (_ : (!false) = true) => ?_)
  | with_reducible refine @And.intro (_ = true → _) (_ = false → _) ?_ ?_ | with_reducible refine @And.intro (_ = false → _) (_ = true → _) ?_ ?_
  | (with_reducible refine And.intro ?k1 ?_; (case k1 => exact Nat.le_of_ble_eq_true rfl)))
local macro_rules | `(tactic| k_state_short () "gws") => `(tactic| first | exact gws_nil | (refine gws_cons gmono_name (gw_name (by decide)) ?_; k_state_short () "gws"))
local macro_rules | `(tactic| k_state_short () "gw") => `(tactic| first | exact gw_name (by decide) | (refine gw_tup ?_; k_state_short () "gws"))
local macro_rules | `(tactic| k_state_short () "d1") => `(tactic| first | k_state_short () "s1" | k_state_short () "e1" | k_state_short () "r1" | k_state_short () "x1")
local macro_rules | `(tactic| k_state_short () "d") => `(tactic| repeat k_state_short () "d1")
def sp_one : DSp := fun ds h Q _ => ∃ p, ds = [.ref p] ∧ PoolAt h p ∧ ∀ h', Q (.bl true) h'
theorem srcI_list {ds : List D} {s : List PyData} (p : Paired SrcI ds s) {i : Nat} {d : D} (e : ds[i]? = some d) : ∃ q, s[i]? = some q ∧ SrcI d q := paired_get p e
/-- a thing handed on -/
theorem sm_of {q : PyData} {qs : List PyData} (e : seqP q = some qs) : Sm q (.list qs) ∧ Sm q (.tuple qs) := ⟨sm_row e rfl, sm_row e rfl⟩
/-- the handing: one row -/
theorem hand_row {K : PySem.W.Frag} {δ : DSt} {h : DH} {Q : DK} {p hd : Addr} {d : D} {s : List PyData} {k : Nat} (hj : δ[0]? = some (some (.ref p))) (hk : δ[k]? = some (some d)) (h15 : δ.length = 16) (hk15 : k < 15) (hk0 : k ≠ 0)
    (hp : PoolAt h p) (hn : hd ≠ p) (hhd : ∃ o, h hd = some o) (hs : SrcL d s)
    (q : ∀ x y h', PoolStep p h h' → RowH (fun a => a = p ∨ a = hd) h' x y → SmR s y → Q x h') :
    dE K (tCall (upSp K sp_as) [] E0 (tCons (tVar 0) (tCons (tLc (iSeq K (tVar k)) (gName 15) tYes (tIf (tTest (tOp rIsN (tVar 15) (tC .non))) (tC .non) (tCall (upSp K sp_as) [] E0 (tCons (tVar 0) (tCons (tVar 15) tNil)))) [15]) tNil))) δ h Q := by
  obtain ⟨ds, rfl, hsr, hz⟩ := hs
  have hl := Paired.length hsr
  refine e_call (a_cons (e_var hj (a_cons ?_)))
  refine e_lcX (by k_state_short () "gw") (i_seq (e_var hk ?_))
  refine ⟨ds, .lst (.frz _), by omega, fun i acc h' => ∃ qs, PoolStep p h h' ∧ Paired (ItemH (fun a => a = p ∨ a = hd) h') acc qs ∧ Paired Sm (s.take i) qs,
    ⟨[], .refl hp, .nil, .nil⟩, fun _ _ _ _ => .lst (.frz _), ?_, ?_⟩
  · rintro i d acc h1 hd1 ⟨qs, st, pi, ps⟩ _
    obtain ⟨qi, hq, si⟩ := srcI_list hsr hd1
    have tk := take_snoc hq
    have e15 : ((dwipe δ [15]).set 15 (some d))[15]? = some (some d) := by
      rw [List.getElem?_set_self]
      show 15 < ((dwipe δ []).set 15 none).length
      rw [List.length_set]; show 15 < δ.length; omega
    have e0 : ((dwipe δ [15]).set 15 (some d))[0]? = some (some (.ref p)) := by
      rw [List.getElem?_set_ne (by decide)]
      show ((dwipe δ []).set 15 none)[0]? = _
      rw [List.getElem?_set_ne (by decide)]; exact hj
    refine g_name (t_yes ⟨fun _ => ?_, fun e => Bool.noConfusion e⟩)
    refine e_if (t_test (e_op (e_var e15 (e_non (r_isN ⟨_, rfl, fun hb => ?_, fun hb => ?_⟩)))))
    · rcases si with ⟨rfl, rfl⟩ | ⟨qs', e, a, rfl | rfl⟩
      · exact e_non ⟨_, st, paired_snoc (.inl ⟨rfl, rfl⟩) pi, by rw [tk]; exact paired_snoc sm_none ps⟩
      · cases hb
      · cases hb
    · rcases si with ⟨rfl, rfl⟩ | ⟨qs', e, a, hd2⟩
      · cases hb
      refine e_call (a_cons (e_var e0 (a_cons (e_var e15 (a_nil ?_)))))
      refine ⟨p, d, tupPs qs', rfl, st.at, fun h' _ => by rcases hd2 with rfl | rfl <;> k_state_short () "iss", fun h2 s2 => ⟨fun l hl2 => ?_, ?_⟩⟩
      · have pi2 := Paired.imp2 (fun _ _ z => ItemH.mono z (h' := h2) fun a o n e => s2.1 a o (fun z => n (.inl z)) e) pi
        have nl : l ≠ p := s2.at.ne hl2
        have nh : l ≠ hd := by
          obtain ⟨o, ho⟩ := hhd
          exact Ne.symm (dne_none ((st.trans s2).1 _ _ hn ho) hl2)
        refine ⟨_, ?_, paired_snoc ?_ (Paired.imp2 (fun _ _ z => ItemH.mono z (h' := dupd h2 l (.lst (tupPs qs'))) fun a o n e => by rw [du_ne (dne_none e hl2)]; exact e) pi2), by rw [tk]; exact paired_snoc (sm_of e).1 ps⟩
        · exact ⟨fun b o nb eb => by rw [du_ne (dne_none ((st.trans s2).1 b o nb eb) hl2)]; exact (st.trans s2).1 b o nb eb, s2.at.upd nl⟩
        · exact .inr ⟨qs', a, .inr ⟨l, rfl, rfl, fun z => Or.elim z nl nh, du_same⟩⟩
      · have pi2 := Paired.imp2 (fun _ _ z => ItemH.mono z (h' := h2) fun a o n e => s2.1 a o (fun z => n (.inl z)) e) pi
        exact ⟨_, st.trans s2, paired_snoc (.inr ⟨qs', a, .inl ⟨rfl, rfl⟩⟩) pi2, by rw [tk]; exact paired_snoc (sm_of e).2 ps⟩
  · rintro acc h1 ⟨qs, st, pi, ps⟩
    rw [hl, List.take_length] at ps
    left
    refine a_nil ⟨p, .lst acc, acc, rfl, st.at, fun h' _ => by k_state_short () "iss", fun h2 s2 => ⟨fun l hl2 => ?_, ?_⟩⟩
    · have pi2 := Paired.imp2 (fun _ _ z => ItemH.mono z (h' := h2) fun a o n e => s2.1 a o (fun z => n (.inl z)) e) pi
      have nl : l ≠ p := s2.at.ne hl2
      have nh : l ≠ hd := by
        obtain ⟨o, ho⟩ := hhd
        exact Ne.symm (dne_none ((st.trans s2).1 _ _ hn ho) hl2)
      refine q _ (.list qs) _ ?_ ⟨acc, qs, .inr ⟨l, rfl, rfl, fun z => Or.elim z nl nh, du_same, ?_⟩⟩ ⟨qs, rfl, ps⟩
      · exact ⟨fun b o nb eb => by rw [du_ne (dne_none ((st.trans s2).1 b o nb eb) hl2)]; exact (st.trans s2).1 b o nb eb, s2.at.upd nl⟩
      · refine Paired.imp2 (fun d' q' z => ?_) pi2
        rcases z with z | ⟨q2, a, z | ⟨b, e1, e2, n, e3⟩⟩
        · exact .inl z
        · exact .inr ⟨q2, a, .inl z⟩
        · have nb : b ≠ l := dne_none e3 hl2
          exact .inr ⟨q2, a, .inr ⟨b, e1, e2, fun z => Or.elim z n nb, by rw [du_ne nb]; exact e3⟩⟩
    · have pi2 := Paired.imp2 (fun _ _ z => ItemH.mono z (h' := h2) fun a o n e => s2.1 a o (fun z => n (.inl z)) e) pi
      exact q _ (.tuple qs) _ (st.trans s2) ⟨acc, qs, .inl ⟨rfl, rfl, pi2⟩⟩ ⟨qs, rfl, ps⟩
end Lw
set_option maxHeartbeats 800000
namespace Lw
open PySem PySem.Spec PyProof.Rows L2 DL
local macro_rules | `(tactic| k_state_short () "kit") => `(tactic| first | exact kt_None_int | exact kt_bool_int | exact kt_int_int | exact kt_str_int | exact kt_list_int | exact kt_tuple_int | exact kt_None_bool | exact kt_bool_bool | exact kt_int_bool | exact kt_str_bool | exact kt_list_bool | exact kt_tuple_bool | exact kt_None_list | exact kt_bool_list | exact kt_int_list | exact kt_str_list | exact kt_list_list | exact kt_tuple_list | exact kt_None_tuple | exact kt_bool_tuple | exact kt_int_tuple | exact kt_str_tuple | exact kt_list_tuple | exact kt_tuple_tuple | exact kt_None_str | exact kt_bool_str | exact kt_int_str | exact kt_str_str | exact kt_list_str | exact kt_tuple_str | exact kit_int _ | exact kit_bool _ | exact kit_list _ | exact kit_tuple _ | exact kit_str _ | assumption)
local macro_rules | `(tactic| k_state_short () "look") => `(tactic| first | assumption | exact du_same | (refine (du_ne (by first | assumption | exact Ne.symm (by assumption))).trans ?_; k_state_short () "look"))
local macro_rules | `(tactic| k_state_short () "iss") => `(tactic| first | assumption | exact IsS.tup _ | exact IsS.lst (IsL.frz _) | exact IsS.lst (IsL.rd _) | exact IsS.lst (IsL.own (by k_state_short () "look")) )
local macro_rules | `(tactic| k_state_short () "isl") => `(tactic| first | assumption | exact IsL.frz _ | exact IsL.rd _ | exact IsL.own (by k_state_short () "look"))
local macro_rules | `(tactic| k_state_short () "ism") => `(tactic| first | exact IsM.frz _ | exact IsM.own (by k_state_short () "look"))
local macro_rules | `(tactic| k_state_short () "cmul") => `(tactic| first | exact Or.inl ⟨by omega, by omega⟩ | exact Or.inr ⟨by omega, by omega⟩)
local macro_rules | `(tactic| k_state_short () "tru") => `(tactic| first | exact Tru.bl _ | exact Tru.non | exact Tru.int _ | exact Tru.tup _ | exact Tru.lst (by k_state_short () "isl"))
local macro_rules | `(tactic| k_state_short () "tyn") => `(tactic| first | exact TyN.bl _ | exact TyN.non | exact TyN.int _ | exact TyN.str _ | exact TyN.tup _ | exact tyn_of (by assumption) | exact TyN.lst (by k_state_short () "isl"))
local macro_rules | `(tactic| k_state_short () "s1") => `(tactic| with_reducible first
  | refine s_seq ?_ | refine s_asg ?_ | refine s_if ?_ | refine s_ret ?_ | refine s_drop ?_ | refine s_retN ?_ | refine s_next ?_ | refine s_brk ?_ | refine s_cont ?_)
local macro_rules | `(tactic| k_state_short () "e1") => `(tactic| first
  | with_reducible refine e_op ?_ | ((with_reducible refine' e_var ?k1 ?_); (case k1 => rfl)) | with_reducible refine e_int ?_ | with_reducible refine e_bl ?_ | with_reducible refine e_non ?_ | with_reducible refine e_str ?_ | with_reducible refine e_ty ?_
  | with_reducible refine e_tup ?_ | (with_reducible refine e_isi2 ?_) | with_reducible refine e_cb ?_ | with_reducible refine a_cons ?_ | with_reducible refine a_nil ?_ | with_reducible refine e_call ?_ | with_reducible refine e_then ?_
  | with_reducible refine e_if ?_ | with_reducible refine e_andT ?_ | with_reducible refine e_orT ?_ | with_reducible refine e_notT ?_ | with_reducible refine e_chain ?_
  | with_reducible refine t_test ?_ | with_reducible refine t_tru ?_ | with_reducible refine t_not ?_ | with_reducible refine t_and ?_ | with_reducible refine t_or ?_ | with_reducible refine t_yes ?_ | with_reducible refine i_seq ?_ | with_reducible refine i_rng1 ?_ | with_reducible refine i_rng2 ?_)
local macro_rules | `(tactic| k_state_short () "r1") => `(tactic| first
  | ((with_reducible refine' r_ix ?k1 ?k2 ?_); (case k1 => k_state_short () "iss"); (case k2 => rfl))
  | with_reducible refine r_addI ?_ | with_reducible refine r_subI ?_ | with_reducible refine r_ltI ?_ | with_reducible refine r_leI ?_ | with_reducible refine r_gtI ?_ | with_reducible refine r_geI ?_ | with_reducible refine r_eqII ?_ | with_reducible refine r_neII ?_ | with_reducible refine r_isN ?_ | with_reducible refine r_notN ?_
  | ((with_reducible refine' r_modI ?k1 ?_); (case k1 => first | omega | decide)) | ((with_reducible refine' r_divI ?k1 ?k2 ?_); (case k1 => omega); (case k2 => omega)) | ((with_reducible refine' r_mulI ?k1 ?_); (case k1 => k_state_short () "cmul")) | ((with_reducible refine' r_powI ?k1 ?_); (case k1 => decide))
  | ((with_reducible refine' c_lenX ?k1 ?_); (case k1 => k_state_short () "iss")) | with_reducible refine c_absX ?_ | with_reducible refine c_maxX ?_ | with_reducible refine c_minX ?_ | with_reducible refine c_intX ?_
  | ((with_reducible refine' c_isi ?k1 ?k2 ?_); (case k1 => k_state_short () "tyn"); (case k2 => k_state_short () "kit"))
  | ((with_reducible refine' u_tuple ?k1 ?_); (case k1 => k_state_short () "iss"))
  | with_reducible refine g_name ?_ | with_reducible refine g_setL ?_ | ((with_reducible refine' g_tup ?k1 ?_); (case k1 => rfl)) | with_reducible refine g_cons ?_ | with_reducible refine g_nil ?_)
local macro_rules | `(tactic| k_state_short () "x1") => `(tactic| first
  | ((with_reducible refine' ⟨_, _, _, _, rfl, rfl, ?k1, ?k2, ?_⟩); (case k1 => k_state_short () "look"); (case k2 => rfl))
  | ((with_reducible refine' ⟨_, _, _, ?k1, ?k2, ?k3, ?_⟩); (case k1 => k_state_short () "tyn"); (case k2 => k_state_short () "kit"); (case k3 => k_state_short () "kit"))
  | ((with_reducible refine' ⟨_, rfl, ?k1, ?_⟩); (case k1 => with_reducible (refine And.intro ?_ ?_) <;> omega))
  | with_reducible refine ⟨_, rfl, ?_⟩
  | ((with_reducible refine' ⟨_, ?k1, ?_⟩); (case k1 => k_state_short () "tru"))
  | with_reducible refine And.intro (fun (_ : true = true) => ?_) (fun (e : true = false) => Bool.noConfusion e) | with_reducible refine And.intro (fun (e : false = true) => Bool.noConfusion e) (fun (_ : false = false) => ?_)
  | with_reducible refine And.intro (fun (e : true = false) => Bool.noConfusion e) (fun (_ : true = true) => ?_) | with_reducible refine And.intro (fun (_ : false = false) => ?_) (fun (e : false = true) => Bool.noConfusion e)
  | with_reducible refine And.intro (fun (e : (!true) = true) => (nt_t e).elim) (fun (_ : (!true) = false) => ?_) | with_reducible refine And.intro (fun (_ : (!false) = true) => ?_) (fun (e : (!false) = false) => (nf_f e).elim)
  | with_reducible refine And.intro (fun (_ : (!true) = false) => ?_) (fun (e : (!true) = true) => (nt_t e).elim) | with_reducible refine And.intro (fun (e : (!false) = false) => (nf_f e).elim) (fun (_ : (!false) = true) => ?_)
  | with_reducible refine @And.intro (_ = true → _) (_ = false → _) ?_ ?_ | with_reducible refine @And.intro (_ = false → _) (_ = true → _) ?_ ?_
  | (with_reducible refine And.intro ?k1 ?_; (case k1 => exact Nat.le_of_ble_eq_true rfl)))
local macro_rules | `(tactic| k_state_short () "gws") => `(tactic| first | exact gws_nil | (refine gws_cons gmono_name (gw_name (by decide)) ?_; k_state_short () "gws"))
local macro_rules | `(tactic| k_state_short () "gw") => `(tactic| first | exact gw_name (by decide) | (refine gw_tup ?_; k_state_short () "gws"))
local macro_rules | `(tactic| k_state_short () "d1") => `(tactic| first | k_state_short () "s1" | k_state_short () "e1" | k_state_short () "r1" | k_state_short () "x1")
local macro_rules | `(tactic| k_state_short () "d") => `(tactic| repeat k_state_short () "d1")
theorem tupPs_roads : ∀ ws : List Road, tupPs (ws.map Road.p) = ws.map Road.d
  | [] => rfl
  | w :: ws => by show tupP w.p :: tupPs (ws.map Road.p) = w.d :: ws.map Road.d; rw [tupPs_roads ws]; rfl
theorem tupPs_map {α : Type} (f : α → PyData) : ∀ l : List α, tupPs (l.map f) = l.map fun x => tupP (f x)
  | [] => rfl
  | x :: l => by show tupP (f x) :: tupPs (l.map f) = _; rw [tupPs_map f l]; rfl
theorem tupPs_rep (q : PyData) : ∀ n : Nat, tupPs (List.replicate n q) = List.replicate n (tupP q)
  | 0 => rfl
  | n + 1 => by rw [List.replicate_succ, List.replicate_succ]; show tupP q :: tupPs (List.replicate n q) = _; rw [tupPs_rep q n]
theorem tupPs_ints : ∀ ns : List Int, tupPs (ns.map PyData.int) = ns.map D.int
  | [] => rfl
  | n :: ns => by show D.int n :: tupPs (ns.map PyData.int) = D.int n :: ns.map D.int; rw [tupPs_ints ns]
theorem paired_map {α β γ : Type} {R : α → β → Prop} {f : γ → α} {g : γ → β} : ∀ {l : List γ}, (∀ x ∈ l, R (f x) (g x)) → Paired R (l.map f) (l.map g)
  | [], _ => .nil
  | x :: l, h => .cons (h x List.mem_cons_self) (paired_map fun y hy => h y (List.mem_cons_of_mem _ hy))
theorem ints_atom (r : List Int) : (r.map PyData.int).all atomP = true := by
  rw [List.all_eq_true]
  intro x hx
  obtain ⟨i, _, rfl⟩ := List.mem_map.mp hx
  rfl
theorem ints_all (r : List Int) : ∀ x ∈ r.map PyData.int, ∃ i, x = PyData.int i := fun x hx => by
  obtain ⟨i, _, rfl⟩ := List.mem_map.mp hx
  exact ⟨i, rfl⟩
def rowD (r : List Int) : D := .lst (r.map D.int)
theorem srcI_row (r : List Int) : SrcI (rowD r) (rowP r) := .inr ⟨_, rfl, ints_atom r, .inr (by unfold rowD; rw [tupPs_ints])⟩
theorem srcI_road (w : Road) : SrcI w.d w.p := .inr ⟨_, rfl, rfl, .inl rfl⟩
/-- a waiting room's row, or None -/
def optD : Option (List Int) → D
  | none => .non
  | some r => rowD r
def optP : Option (List Int) → PyData
  | none => .none
  | some r => rowP r
theorem srcI_opt : ∀ o : Option (List Int), SrcI (optD o) (optP o)
  | none => .inl ⟨rfl, rfl⟩
  | some r => srcI_row r
theorem dpys_ints {h : DH} : ∀ r : List Int, DPys h (r.map D.int) (r.map PyData.int)
  | [] => .nil
  | n :: ns => .cons (.int n) (dpys_ints ns)
theorem dpy_row {h : DH} (r : List Int) : DPy h (rowD r) (rowP r) := .lst (.frz _) (dpys_ints r)
theorem dpys_rows {h : DH} : ∀ rs : List (List Int), DPys h (rs.map rowD) (rs.map rowP)
  | [] => .nil
  | r :: rs => .cons (dpy_row r) (dpys_rows rs)
theorem dpys_opts {h : DH} : ∀ os : List (Option (List Int)), DPys h (os.map optD) (os.map optP)
  | [] => .nil
  | none :: os => .cons .non (dpys_opts os)
  | some r :: os => .cons (dpy_row r) (dpys_opts os)
theorem opts_flat (os : List (Option (List Int))) : ∀ q ∈ os.map optP, q = .none ∨ ∃ qs, seqP q = some qs ∧ qs.all atomP = true := fun q hq => by
  obtain ⟨o, _, rfl⟩ := List.mem_map.mp hq
  cases o with
  | none => exact .inl rfl
  | some r => exact .inr ⟨_, rfl, ints_atom r⟩
theorem rows_flat (rs : List (List Int)) : ∀ q ∈ rs.map rowP, q = .none ∨ ∃ qs, seqP q = some qs ∧ qs.all atomP = true := fun q hq => by
  obtain ⟨r, _, rfl⟩ := List.mem_map.mp hq
  exact .inr ⟨_, rfl, ints_atom r⟩
theorem rows_flat2 {rs : List (List Int)} {n : Nat} (hz : rs.length ≤ 1000) (h : ∀ r ∈ rs, r.length ≤ 1000) : Flat2 (rs.map rowP) := ⟨by rw [List.length_map]; exact hz, fun q hq => by
  obtain ⟨r, hr, rfl⟩ := List.mem_map.mp hq
  exact .inr ⟨_, rfl, by rw [List.length_map]; exact h r hr, ints_all r⟩⟩
theorem opts_flat2 {os : List (Option (List Int))} (hz : os.length ≤ 1000) (h : ∀ r, some r ∈ os → r.length ≤ 1000) : Flat2 (os.map optP) := ⟨by rw [List.length_map]; exact hz, fun q hq => by
  obtain ⟨o, ho, rfl⟩ := List.mem_map.mp hq
  cases o with
  | none => exact .inl rfl
  | some r => exact .inr ⟨_, rfl, by rw [List.length_map]; exact h r ho, ints_all r⟩⟩
theorem roads_flat2 {ws : List Road} (hz : ws.length ≤ 1000) : Flat2 (ws.map Road.p) := ⟨by rw [List.length_map]; exact hz, fun q hq => by
  obtain ⟨w, _, rfl⟩ := List.mem_map.mp hq
  exact .inr ⟨_, rfl, Nat.le_of_ble_eq_true rfl, fun x hx => by
    rcases List.mem_cons.mp hx with rfl | hx
    · exact ⟨_, rfl⟩
    rcases List.mem_cons.mp hx with rfl | hx
    · exact ⟨_, rfl⟩
    rcases List.mem_cons.mp hx with rfl | hx
    · exact ⟨_, rfl⟩
    cases hx⟩⟩
theorem pr_one {K : PySem.W.Frag} : ∀ ds h QD QX, sp_one ds h QD QX → dB K (t__law_one K sp_next sp_roads sp_rows sp_flat sp_as sp_made_calendar (sp_same 3) sp_emptied sp_wide sp_net_calendar) N__law_one ds h QD := by
  rintro ds h QD QX ⟨p, rfl, hp, k⟩
  k_state_short () "d"
  refine ⟨_, _, rfl, hp, by decide, fun m h1 s1 _ um => ?_⟩
  k_state_short () "d"
  refine ⟨_, _, rfl, s1.at, by decide, fun last h2 s2 l2 ul => ?_⟩
  k_state_short () "d"
  refine ⟨_, _, rfl, s2.at, by omega, fun ws h3 s3 wz wo => ?_⟩
  k_state_short () "d"
  rw [List.length_map]
  refine ⟨_, _, _, rfl, s3.at, by omega, by omega, fun rs h4 s4 rz ro => ?_⟩
  k_state_short () "d"
  refine e_lcX (by k_state_short () "gw") ?_
  k_state_short () "d"
  refine ⟨_, _, _, rfl, s4.at, by omega, by omega, fun vs h5 s5 vz vo => ?_⟩
  refine ⟨_, .lst (.frz _), by unfold rowsD; rw [List.length_map]; omega, fun i acc h' => PoolAt h' p ∧ ∃ os : List (Option (List Int)), acc = os.map optD ∧ os.length = i ∧ ∀ r, some r ∈ os → r ∈ vs,
    ⟨s5.at, [], rfl, rfl, fun r hr => by cases hr⟩, fun _ _ _ _ => .lst (.frz _), ?_, ?_⟩
  · rintro i d acc h' hd ⟨st, os, rfl, oz, oo⟩ _
    unfold rowsD at hd
    rw [List.getElem?_map] at hd
    obtain ⟨v, hv, rfl⟩ := Option.map_eq_some_iff.mp hd
    k_state_short () "d"
    refine e_lstF ?_
    k_state_short () "d"
    refine ⟨_, _, rfl, st, by decide, fun d1 h6 s6 l6 u6 => ?_⟩
    k_state_short () "d"
    by_cases hb : 0 < d1
    · rw [decide_eq_true hb]
      k_state_short () "d"
      refine ⟨s6.at, os ++ [some v], by rw [List.map_append]; rfl, by rw [List.length_append, oz]; rfl, ?_⟩
      intro r hr
      rcases List.mem_append.mp hr with q | q
      · exact oo r q
      · cases List.mem_singleton.mp q
        exact List.mem_of_getElem? hv
    · rw [decide_eq_false hb]
      k_state_short () "d"
      refine ⟨s6.at, os ++ [none], by rw [List.map_append]; rfl, by rw [List.length_append, oz]; rfl, ?_⟩
      intro r hr
      rcases List.mem_append.mp hr with q | q
      · exact oo r q
      · cases List.mem_singleton.mp q
  rintro acc h6 ⟨st6, os, rfl, oz, oo⟩
  have oz2 : os.length = (2 + m - 2).toNat := by unfold rowsD at oz; rw [List.length_map] at oz; omega
  left
  k_state_short () "d"
  refine e_lstF ?_
  k_state_short () "d"
  refine r_addL (.frz _) (.frz _) (by rw [List.length_map]; simp only [List.length_cons, List.length_nil]; omega) ?_
  k_state_short () "d"
  refine e_lstF ?_
  k_state_short () "d"
  refine r_addL (.frz _) (.frz _) (by rw [List.length_append, List.length_map]; simp only [List.length_cons, List.length_nil]; omega) ?_
  have ew : [D.non] ++ os.map optD ++ [D.non] = ([none] ++ os ++ [none] : List (Option (List Int))).map optD := by rw [List.map_append, List.map_append]; rfl
  rw [ew]
  clear ew
  have wl : (([none] ++ os ++ [none] : List (Option (List Int))).length : Int) = 2 + m := by
    rw [List.length_append, List.length_append]; simp only [List.length_cons, List.length_nil]; omega
  have wm : ∀ r, some r ∈ ([none] ++ os ++ [none] : List (Option (List Int))) → r ∈ vs := fun r hr => by
    rcases List.mem_append.mp hr with q | q
    · rcases List.mem_append.mp q with q | q
      · cases List.mem_singleton.mp q
      · exact oo r q
    · cases List.mem_singleton.mp q
  have w0 : (([none] ++ os ++ [none] : List (Option (List Int))).map optP).getD 0 .none = .none := rfl
  have w1 : (([none] ++ os ++ [none] : List (Option (List Int))).map optP).getD (2 + m - 1).toNat .none = .none := by
    rw [List.getD_eq_getElem?_getD, List.getElem?_map, List.getElem?_append_right (by rw [List.length_append]; simp only [List.length_cons, List.length_nil]; omega)]
    rw [show (2 + m - 1).toNat - ([none] ++ os : List (Option (List Int))).length = 0 by rw [List.length_append]; simp only [List.length_cons, List.length_nil]; omega]
    rfl
  generalize ([none] ++ os ++ [none] : List (Option (List Int))) = ws' at wl wm w0 w1
  clear oo oz oz2
  have fr : Flat2 (rs.map rowP) := rows_flat2 (n := 0) (by omega) fun r hr => by have := (ro r hr).1; omega
  have fw : Flat2 (ws.map Road.p) := roads_flat2 (by omega)
  have fq : Flat2 (ws'.map optP) := opts_flat2 (by omega) fun r hr => by have := (vo r (wm r hr)).1; omega
  unfold rowsD
  k_state_short () "d"
  refine ⟨_, .list (rs.map rowP), _, rfl, .lst (.frz _) (dpys_rows rs), rfl, by rw [List.length_map]; omega, rows_flat rs, ?_⟩
  k_state_short () "d"
  refine ⟨_, .list (ws'.map optP), _, rfl, .lst (.frz _) (dpys_opts ws'), rfl, by rw [List.length_map]; omega, opts_flat ws', ?_⟩
  k_state_short () "d"
  have edue : D.tup [.int (2 + m), .int last, .tup (ws.map Road.d), tupP (.list (rs.map rowP)), tupP (.list (ws'.map optP))] =
      tupP (.tuple [.int (2 + m), .int last, .list (ws.map Road.p), .list (rs.map rowP), .list (ws'.map optP)]) := by
    rw [← tupPs_roads]; rfl
  refine e_lst ?_
  k_state_short () "d"
  intro hd hhd
  have nhd : hd ≠ p := st6.ne hhd
  have st7 : PoolAt (dupd h6 hd (.lst [])) p := st6.upd nhd
  k_state_short () "d"
  refine s_for ?_
  k_state_short () "d"
  refine e_lstF ?_
  k_state_short () "d"
  refine ⟨_, .lst (.frz _), fun i δ' h' => ∃ (x8 : Option D) (xs : List D) (ps : List PyData),
      δ' = [some (.ref p), some (.int (2 + m)), some (.int last), some (.lst (ws.map Road.d)), some (.lst (rs.map rowD)), some (.lst (ws'.map optD)), some (.tup [.int (2 + m), .int last, .tup (ws.map Road.d), tupP (.list (rs.map rowP)), tupP (.list (ws'.map optP))]), some (.ref hd), x8, none, none, none, none, none, none, none] ∧
      PoolAt h' p ∧ h' hd = some (.lst xs) ∧ Paired (RowH (fun a => a = p ∨ a = hd) h') xs ps ∧ Paired SmR (([ws.map Road.p, rs.map rowP, ws'.map optP] : List (List PyData)).take i) ps,
    ⟨_, [], [], rfl, st7, du_same, .nil, .nil⟩, fun _ _ _ _ => .lst (.frz _), ?_, ?_⟩
  · rintro i d δ' h' hdd ⟨x8, xs, ps, rfl, st, hH, pr, ps2⟩
    refine g_name ?_
    have src : ∃ s, ([ws.map Road.p, rs.map rowP, ws'.map optP] : List (List PyData))[i]? = some s ∧ SrcL d s := by
      match i, hdd with
      | 0, hdd => cases hdd; exact ⟨_, rfl, _, rfl, paired_map fun w _ => srcI_road w, by rw [List.length_map]; omega⟩
      | 1, hdd => cases hdd; exact ⟨_, rfl, _, rfl, paired_map fun r _ => srcI_row r, by rw [List.length_map]; omega⟩
      | 2, hdd => cases hdd; exact ⟨_, rfl, _, rfl, paired_map fun o _ => srcI_opt o, by rw [List.length_map]; omega⟩
      | n + 3, hdd => simp at hdd
    obtain ⟨s, es, sl⟩ := src
    have xl : xs.length ≤ 3 := by
      have a1 := Paired.length pr
      have a2 := Paired.length ps2
      rw [List.length_take] at a2
      simp only [List.length_cons, List.length_nil] at a2
      omega
    refine s_drop (e_bmL (e_var rfl ⟨_, .own hH, a_cons ?_⟩))
    refine hand_row (k := 8) (hd := hd) rfl rfl rfl (by decide) (by decide) st nhd ⟨_, hH⟩ sl fun x y h8 s8 rx sm => a_nil ?_
    have hH8 := s8.1 _ _ nhd hH
    refine m_append hH8 (by omega) ?_
    refine ⟨_, xs ++ [x], ps ++ [y], rfl, s8.at.upd nhd, du_same, ?_, ?_⟩
    · have pr2 := Paired.imp2 (fun _ _ z => RowH.mono z (h' := h8) fun a o n e => s8.1 a o (fun z => n (.inl z)) e) pr
      exact Paired.imp2 (fun _ _ z => RowH.mono z fun a o n e => by rw [du_ne (fun z => n (.inr z))]; exact e) (paired_snoc rx pr2)
    · rw [take_snoc es]; exact paired_snoc sm ps2
  rintro δ' h' ⟨x8, xs, ps, rfl, st, hH, pr, ps2⟩
  change Paired SmR [ws.map Road.p, rs.map rowP, ws'.map optP] ps at ps2
  obtain ⟨q0, q1, q2, rfl, m0, m1, m2⟩ : ∃ q0 q1 q2, ps = [q0, q1, q2] ∧ SmR (ws.map Road.p) q0 ∧ SmR (rs.map rowP) q1 ∧ SmR (ws'.map optP) q2 := by
    cases ps2 with
    | cons a r => cases r with
      | cons b r => cases r with
        | cons c r => cases r; exact ⟨_, _, _, rfl, a, b, c⟩
  obtain ⟨x0, x1, x2, rfl, r0, r1, r2⟩ : ∃ x0 x1 x2, xs = [x0, x1, x2] ∧ RowH (fun a => a = p ∨ a = hd) h' x0 q0 ∧ RowH (fun a => a = p ∨ a = hd) h' x1 q1 ∧ RowH (fun a => a = p ∨ a = hd) h' x2 q2 := by
    cases pr with
    | cons a r => cases r with
      | cons b r => cases r with
        | cons c r => cases r; exact ⟨_, _, _, rfl, a, b, c⟩
  have cal : ∀ {q0 q1 q2 : PyData}, SmR (ws.map Road.p) q0 → SmR (rs.map rowP) q1 → SmR (ws'.map optP) q2 → CalOk (.int (2 + m)) (.int last) q0 q1 q2 (2 + m) last := fun {q0 q1 q2} a b c =>
    { m := rfl, l := rfl, mb := by omega, lb := by omega, w := roads_ok a wz wo,
      r := by
        obtain ⟨l, e, h⟩ := a
        have := Paired.length h
        rw [List.length_map] at this
        exact ⟨l, e, rooms_ok b (by omega) fun x hx => ⟨by have := (ro x hx).1; omega, (ro x hx).2⟩⟩
      q := waits_ok c (by rw [List.length_map]; exact wl) (by omega) w0 w1 fun q hq => by
        obtain ⟨o, ho, rfl⟩ := List.mem_map.mp hq
        cases o with
        | none => rfl
        | some r =>
          have hh := hourly_ok (n := last) (r := r) (by have := (vo r (wm r ho)).1; omega) (vo r (wm r ho)).2
          show (isNoneP (rowP r) || hourlyP last (rowP r)) = true
          rw [hh, Bool.or_true] }
  have good : goodP 3 (.tuple [.int (2 + m), .int last, .list (ws.map Road.p), .list (rs.map rowP), .list (ws'.map optP)]) := by
    refine ⟨Nat.le_of_ble_eq_true rfl, fun x hx => ?_⟩
    rcases List.mem_cons.mp hx with rfl | hx
    · exact trivial
    rcases List.mem_cons.mp hx with rfl | hx
    · exact trivial
    rcases List.mem_cons.mp hx with rfl | hx
    · exact flat_good fw
    rcases List.mem_cons.mp hx with rfl | hx
    · exact flat_good fr
    rcases List.mem_cons.mp hx with rfl | hx
    · exact flat_good fq
    cases hx
  k_state_short () "d"
  refine ⟨_, _, _, _, _, _, _, _, _, _, _, _, rfl, .int _, .int _, r0.dpy, r1.dpy, r2.dpy, cal m0 m1 m2, ?_⟩
  rw [m0.tup, m1.tup, m2.tup]
  k_state_short () "d"
  have hsame : ∀ (Q : DK) (h' : DH), Q (.bl true) h' → sp_same 3 [D.tup [D.int (2 + m), D.int last, tupP (.list (ws.map Road.p)), tupP (.list (rs.map rowP)), tupP (.list (ws'.map optP))],
      D.tup [D.int (2 + m), D.int last, D.tup (ws.map Road.d), tupP (.list (rs.map rowP)), tupP (.list (ws'.map optP))]] h' Q X0 := fun Q h' q => ⟨_, by rw [edue]; rfl, good, q⟩
  refine hsame _ _ ?_
  k_state_short () "d"
  have flat_ok : ∀ {s : List PyData} {q : PyData}, SmR s q → s.length ≤ 1000 → (∀ q ∈ s, q = .none ∨ ∃ qs, seqP q = some qs ∧ qs.all atomP = true) → ∃ l, seqP q = some l ∧ l.length ≤ 1000 ∧ (∀ q ∈ l, q = .none ∨ ∃ qs, seqP q = some qs ∧ qs.all atomP = true) := by
    rintro s q ⟨l, e, ps⟩ hz hf
    refine ⟨l, e, by rw [← Paired.length ps]; exact hz, fun y hy => ?_⟩
    obtain ⟨x, hx, sm⟩ := paired_memR ps hy
    rcases hf x hx with rfl | ⟨qs, e1, a⟩
    · left
      have := sm.n
      cases y <;> first | rfl | cases this
    · exact .inr ⟨qs, sm.s ▸ e1, a⟩
  have frw : ∀ q ∈ ws.map Road.p, q = .none ∨ ∃ qs, seqP q = some qs ∧ qs.all atomP = true := fun q hq => by
    obtain ⟨w, _, rfl⟩ := List.mem_map.mp hq
    exact .inr ⟨_, rfl, rfl⟩
  obtain ⟨l0, e0, z0, f0⟩ := flat_ok m0 (by rw [List.length_map]; omega) frw
  obtain ⟨l1, e1, z1, f1⟩ := flat_ok m1 (by rw [List.length_map]; omega) (rows_flat rs)
  obtain ⟨l2', e2, z2, f2⟩ := flat_ok m2 (by rw [List.length_map]; omega) (opts_flat ws')
  refine e_lcM (by k_state_short () "gw") ?_
  k_state_short () "d"
  refine ⟨_, .lst (.own hH), Nat.le_of_ble_eq_true rfl, .lst (.own hH), [tupP (.list (ws.map Road.p)), tupP (.list (rs.map rowP)), tupP (.list (ws'.map optP))], rfl, fun i d hdd => ?_, ?_⟩
  · refine g_name (e_call (a_cons (e_var rfl (a_nil ?_))))
    match i, hdd with
    | 0, hdd => cases hdd; exact ⟨_, _, _, rfl, r0.dpy, e0, z0, f0, rfl, by rw [m0.tup]; rfl⟩
    | 1, hdd => cases hdd; exact ⟨_, _, _, rfl, r1.dpy, e1, z1, f1, rfl, by rw [m1.tup]; rfl⟩
    | 2, hdd => cases hdd; exact ⟨_, _, _, rfl, r2.dpy, e2, z2, f2, rfl, by rw [m2.tup]; rfl⟩
    | n + 3, hdd => simp at hdd
  k_state_short () "d"
  refine e_slT (e_var rfl (o_some (e_int ⟨2, rfl, o_none ⟨_, rfl, ?_, ?_⟩⟩)))
  · intro z; exact absurd z.1 (by show ¬ (2 : Nat) = 0; decide)
  k_state_short () "d"
  refine c_listF (.tup _) ?_
  have ecut : cutD [D.int (2 + m), D.int last, D.tup (ws.map Road.d), tupP (.list (rs.map rowP)), tupP (.list (ws'.map optP))] (some 2) none = tupPs [.list (ws.map Road.p), .list (rs.map rowP), .list (ws'.map optP)] := by
    have a : cutD [D.int (2 + m), D.int last, D.tup (ws.map Road.d), tupP (.list (rs.map rowP)), tupP (.list (ws'.map optP))] (some 2) none = [D.tup (ws.map Road.d), tupP (.list (rs.map rowP)), tupP (.list (ws'.map optP))] := rfl
    rw [a, ← tupPs_roads]; rfl
  rw [ecut]
  have sh := three_shaped fw fr fq
  refine r_neD (p := .list (normPs [.list (ws.map Road.p), .list (rs.map rowP), .list (ws'.map optP)])) (q := .list (normPs [.list (ws.map Road.p), .list (rs.map rowP), .list (ws'.map optP)])) (.lst (.frz _) (dpys_norm _ [.list (ws.map Road.p), .list (rs.map rowP), .list (ws'.map optP)])) (.lst (.frz _) (dpys_norm _ _)) sh sh ?_
  rw [eqv_self sh]
  k_state_short () "d"
  have erd : D.tup (ws.map Road.d) = tupP (.list (ws.map Road.p)) := by rw [← tupPs_roads]; rfl
  have n0 : SmR (ws.map Road.p) (normP (.list (ws.map Road.p))) := SrcL.norm ⟨_, rfl, paired_map fun w _ => srcI_road w, by rw [List.length_map]; omega⟩
  have n1 : SmR (rs.map rowP) (normP (.list (rs.map rowP))) := SrcL.norm ⟨_, rfl, paired_map fun r _ => srcI_row r, by rw [List.length_map]; omega⟩
  have n2 : SmR (ws'.map optP) (normP (.list (ws'.map optP))) := SrcL.norm ⟨_, rfl, paired_map fun o _ => srcI_opt o, by rw [List.length_map]; omega⟩
  refine ⟨_, _, _, _, _, _, _, _, _, _, _, _, rfl, .int _, .int _, by rw [erd]; exact dpy_norm _ _, dpy_norm _ _, dpy_norm _ _, cal n0 n1 n2, ?_⟩
  rw [n0.tup, n1.tup, n2.tup]
  k_state_short () "d"
  refine s_for ?_
  k_state_short () "d"
  refine ⟨_, .lst (.own hH), fun i δ' h2 => ∃ x11 : Option D,
      δ' = [some (.ref p), some (.int (2 + m)), some (.int last), some (.lst (ws.map Road.d)), some (.lst (rs.map rowD)), some (.lst (ws'.map optD)), some (.tup [.int (2 + m), .int last, .tup (ws.map Road.d), tupP (.list (rs.map rowP)), tupP (.list (ws'.map optP))]), some (.ref hd), x8,
        some (.tup [.int (2 + m), .int last, tupP (.list (ws.map Road.p)), tupP (.list (rs.map rowP)), tupP (.list (ws'.map optP))]), some (.tup [.int (2 + m), .int last, tupP (.list (ws.map Road.p)), tupP (.list (rs.map rowP)), tupP (.list (ws'.map optP))]), x11, none, none, none, none] ∧
      Clr (fun a => a = p ∨ a = hd) h' h2, ⟨_, rfl, .refl⟩, ?_, ?_, ?_⟩
  · rintro i δ' h2 ⟨x11, rfl, c⟩
    exact .lst (.own ((c.1 hd (.inr rfl)).trans hH))
  · rintro i d δ' h2 hdd ⟨x11, rfl, c⟩
    refine g_name (s_drop (e_call (a_cons (e_var rfl (a_nil ?_)))))
    have rj : RowJ (fun a => a = p ∨ a = hd) h' d := by
      match i, hdd with
      | 0, hdd => cases hdd; exact r0.j
      | 1, hdd => cases hdd; exact r1.j
      | 2, hdd => cases hdd; exact r2.j
      | n + 3, hdd => simp at hdd
    exact ⟨_, d, rfl, rj.clr c, fun h3 c3 => ⟨_, rfl, c.trans c3⟩⟩
  rintro δ' h9 ⟨x11, rfl, c⟩
  have st9 : PoolAt h9 p := by
    obtain ⟨a, b, z, e⟩ := st
    exact ⟨a, b, z, (c.1 p (.inl rfl)).trans e⟩
  k_state_short () "d"
  refine hsame _ _ ?_
  k_state_short () "d"
  refine hsame _ _ ?_
  k_state_short () "d"
  refine e_lcX (by k_state_short () "gw") ?_
  k_state_short () "d"
  refine ⟨_, .lst (.frz _), by rw [List.length_map]; omega, fun i acc h' => PoolAt h' p ∧ ∃ ns : List Way, acc = ns.map Way.d ∧ ns.length = i ∧ ns.map (fun w => D.tup [.int w.a, .int w.b, .int w.t]) = (ws.take i).map Road.d,
    ⟨st9, [], rfl, rfl, rfl⟩, fun _ _ _ _ => .lst (.frz _), ?_, ?_⟩
  · rintro i d acc h10 hdd ⟨st10, ns, rfl, nz, ne⟩ _
    rw [List.getElem?_map] at hdd
    obtain ⟨w, hw, rfl⟩ := Option.map_eq_some_iff.mp hdd
    unfold Road.d
    k_state_short () "d"
    refine ⟨_, _, rfl, st10, by decide, fun r h11 s11 _ _ => ?_⟩
    k_state_short () "d"
    refine ⟨s11.at, ns ++ [⟨w.a, w.b, r, w.t⟩], by rw [List.map_append]; rfl, by rw [List.length_append, nz]; rfl, ?_⟩
    rw [List.map_append, ne, take_snoc hw, List.map_append]; rfl
  rintro acc h10 ⟨st10, ns, rfl, nz, ne⟩
  rw [List.length_map] at nz ne
  rw [List.take_length] at ne
  left
  k_state_short () "d"
  refine e_lcM (by k_state_short () "gw") ?_
  k_state_short () "d"
  refine ⟨_, .tup _, by rw [List.length_map]; omega, .tup _, ns.map fun w => .tup (List.replicate (last + 1).toNat (.int w.r)), by rw [List.length_map, List.length_map], fun i d hdd => ?_, ?_⟩
  · rw [List.getElem?_map] at hdd
    obtain ⟨w, hw, rfl⟩ := Option.map_eq_some_iff.mp hdd
    unfold Way.d
    k_state_short () "d"
    refine r_mulT (by omega) (by intro z; cases z) (Nat.le_of_ble_eq_true rfl) ?_
    rw [flat_rep]
    refine ⟨rfl, ?_⟩
    rw [List.getElem?_map, hw]; rfl
  k_state_short () "d"
  refine ⟨2 + m, ns, last, rfl, by omega, by omega, by omega, ?_⟩
  k_state_short () "d"
  refine r_mulT (by omega) (by intro z; cases z) (Nat.le_of_ble_eq_true rfl) ?_
  rw [flat_rep, ne]
  k_state_short () "d"
  have eP : D.tup [.int (2 + m), .int last, .tup (ws.map Road.d), .tup (ns.map fun w => .tup (List.replicate (last + 1).toNat (.int w.r))), .tup (List.replicate (2 + m).toNat .non)] =
      tupP (.tuple [.int (2 + m), .int last, .list (ws.map Road.p), .tuple (ns.map fun w => .tuple (List.replicate (last + 1).toNat (.int w.r))), .tuple (List.replicate (2 + m).toNat .none)]) := by
    show _ = D.tup [.int (2 + m), .int last, .tup (tupPs (ws.map Road.p)), .tup (tupPs (ns.map fun w => PyData.tuple (List.replicate (last + 1).toNat (.int w.r)))), .tup (tupPs (List.replicate (2 + m).toNat .none))]
    have ef : (fun w : Way => D.tup (List.replicate (last + 1).toNat (.int w.r))) = fun w : Way => tupP (PyData.tuple (List.replicate (last + 1).toNat (.int w.r))) := by
      funext w
      show _ = D.tup (tupPs (List.replicate (last + 1).toNat (.int w.r)))
      rw [tupPs_rep]; rfl
    rw [tupPs_roads, tupPs_map, tupPs_rep, ef]; rfl
  rw [eP]
  refine ⟨_, rfl, ?_, k _⟩
  refine ⟨Nat.le_of_ble_eq_true rfl, fun x hx => ?_⟩
  rcases List.mem_cons.mp hx with rfl | hx
  · exact trivial
  rcases List.mem_cons.mp hx with rfl | hx
  · exact trivial
  rcases List.mem_cons.mp hx with rfl | hx
  · exact flat_good fw
  rcases List.mem_cons.mp hx with rfl | hx
  · refine ⟨by rw [List.length_map]; omega, fun y hy => ?_⟩
    obtain ⟨w, _, rfl⟩ := List.mem_map.mp hy
    refine ⟨by rw [List.length_replicate]; omega, fun z hz => ?_⟩
    rw [List.eq_of_mem_replicate hz]
    exact trivial
  rcases List.mem_cons.mp hx with rfl | hx
  · refine ⟨by rw [List.length_replicate]; omega, fun y hy => ?_⟩
    rw [List.eq_of_mem_replicate hy]
    exact trivial
  cases hx
end Lw
set_option maxHeartbeats 800000
namespace Lw
open PySem PySem.Spec PyProof.Rows L2 DL
local macro_rules | `(tactic| k_state_short () "kit") => `(tactic| first | exact kt_None_int | exact kt_bool_int | exact kt_int_int | exact kt_str_int | exact kt_list_int | exact kt_tuple_int | exact kt_None_bool | exact kt_bool_bool | exact kt_int_bool | exact kt_str_bool | exact kt_list_bool | exact kt_tuple_bool | exact kt_None_list | exact kt_bool_list | exact kt_int_list | exact kt_str_list | exact kt_list_list | exact kt_tuple_list | exact kt_None_tuple | exact kt_bool_tuple | exact kt_int_tuple | exact kt_str_tuple | exact kt_list_tuple | exact kt_tuple_tuple | exact kt_None_str | exact kt_bool_str | exact kt_int_str | exact kt_str_str | exact kt_list_str | exact kt_tuple_str | exact kit_int _ | exact kit_bool _ | exact kit_list _ | exact kit_tuple _ | exact kit_str _ | assumption)
local macro_rules | `(tactic| k_state_short () "look") => `(tactic| first | assumption | exact du_same | (refine (du_ne (by first | assumption | exact Ne.symm (by assumption))).trans ?_; k_state_short () "look"))
local macro_rules | `(tactic| k_state_short () "iss") => `(tactic| first | assumption | exact IsS.tup _ | exact IsS.lst (IsL.frz _) | exact IsS.lst (IsL.rd _) | exact IsS.lst (IsL.own (by k_state_short () "look")) )
local macro_rules | `(tactic| k_state_short () "isl") => `(tactic| first | assumption | exact IsL.frz _ | exact IsL.rd _ | exact IsL.own (by k_state_short () "look"))
local macro_rules | `(tactic| k_state_short () "ism") => `(tactic| first | exact IsM.frz _ | exact IsM.own (by k_state_short () "look"))
local macro_rules | `(tactic| k_state_short () "cmul") => `(tactic| first | exact Or.inl ⟨by omega, by omega⟩ | exact Or.inr ⟨by omega, by omega⟩)
local macro_rules | `(tactic| k_state_short () "tru") => `(tactic| first | exact Tru.bl _ | exact Tru.non | exact Tru.int _ | exact Tru.tup _ | exact Tru.lst (by k_state_short () "isl"))
local macro_rules | `(tactic| k_state_short () "tyn") => `(tactic| first | exact TyN.bl _ | exact TyN.non | exact TyN.int _ | exact TyN.str _ | exact TyN.tup _ | exact tyn_of (by assumption) | exact TyN.lst (by k_state_short () "isl"))
local macro_rules | `(tactic| k_state_short () "s1") => `(tactic| with_reducible first
  | refine s_seq ?_ | refine s_asg ?_ | refine s_if ?_ | refine s_ret ?_ | refine s_drop ?_ | refine s_retN ?_ | refine s_next ?_ | refine s_brk ?_ | refine s_cont ?_)
local macro_rules | `(tactic| k_state_short () "e1") => `(tactic| first
  | with_reducible refine e_op ?_ | ((with_reducible refine' e_var ?k1 ?_); (case k1 => rfl)) | with_reducible refine e_int ?_ | with_reducible refine e_bl ?_ | with_reducible refine e_non ?_ | with_reducible refine e_str ?_ | with_reducible refine e_ty ?_
  | with_reducible refine e_tup ?_ | (with_reducible refine e_isi2 ?_) | with_reducible refine e_cb ?_ | with_reducible refine a_cons ?_ | with_reducible refine a_nil ?_ | with_reducible refine e_call ?_ | with_reducible refine e_then ?_
  | with_reducible refine e_if ?_ | with_reducible refine e_andT ?_ | with_reducible refine e_orT ?_ | with_reducible refine e_notT ?_ | with_reducible refine e_chain ?_
  | with_reducible refine t_test ?_ | with_reducible refine t_tru ?_ | with_reducible refine t_not ?_ | with_reducible refine t_and ?_ | with_reducible refine t_or ?_ | with_reducible refine t_yes ?_ | with_reducible refine i_seq ?_ | with_reducible refine i_rng1 ?_ | with_reducible refine i_rng2 ?_)
local macro_rules | `(tactic| k_state_short () "r1") => `(tactic| first
  | ((with_reducible refine' r_ix ?k1 ?k2 ?_); (case k1 => k_state_short () "iss"); (case k2 => rfl))
  | with_reducible refine r_addI ?_ | with_reducible refine r_subI ?_ | with_reducible refine r_ltI ?_ | with_reducible refine r_leI ?_ | with_reducible refine r_gtI ?_ | with_reducible refine r_geI ?_ | with_reducible refine r_eqII ?_ | with_reducible refine r_neII ?_ | with_reducible refine r_isN ?_ | with_reducible refine r_notN ?_
  | ((with_reducible refine' r_modI ?k1 ?_); (case k1 => first | omega | decide)) | ((with_reducible refine' r_divI ?k1 ?k2 ?_); (case k1 => omega); (case k2 => omega)) | ((with_reducible refine' r_mulI ?k1 ?_); (case k1 => k_state_short () "cmul")) | ((with_reducible refine' r_powI ?k1 ?_); (case k1 => decide))
  | ((with_reducible refine' c_lenX ?k1 ?_); (case k1 => k_state_short () "iss")) | with_reducible refine c_absX ?_ | with_reducible refine c_maxX ?_ | with_reducible refine c_minX ?_ | with_reducible refine c_intX ?_
  | ((with_reducible refine' c_isi ?k1 ?k2 ?_); (case k1 => k_state_short () "tyn"); (case k2 => k_state_short () "kit"))
  | ((with_reducible refine' u_tuple ?k1 ?_); (case k1 => k_state_short () "iss"))
  | with_reducible refine g_name ?_ | with_reducible refine g_setL ?_ | ((with_reducible refine' g_tup ?k1 ?_); (case k1 => rfl)) | with_reducible refine g_cons ?_ | with_reducible refine g_nil ?_)
local macro_rules | `(tactic| k_state_short () "x1") => `(tactic| first
  | ((with_reducible refine' ⟨_, _, _, _, rfl, rfl, ?k1, ?k2, ?_⟩); (case k1 => k_state_short () "look"); (case k2 => rfl))
  | ((with_reducible refine' ⟨_, _, _, ?k1, ?k2, ?k3, ?_⟩); (case k1 => k_state_short () "tyn"); (case k2 => k_state_short () "kit"); (case k3 => k_state_short () "kit"))
  | ((with_reducible refine' ⟨_, rfl, ?k1, ?_⟩); (case k1 => with_reducible (refine And.intro ?_ ?_) <;> omega))
  | with_reducible refine ⟨_, rfl, ?_⟩
  | ((with_reducible refine' ⟨_, ?k1, ?_⟩); (case k1 => k_state_short () "tru"))
  | with_reducible refine And.intro (fun (_ : true = true) => ?_) (fun (e : true = false) => Bool.noConfusion e) | with_reducible refine And.intro (fun (e : false = true) => Bool.noConfusion e) (fun (_ : false = false) => ?_)
  | with_reducible refine And.intro (fun (e : true = false) => Bool.noConfusion e) (fun (_ : true = true) => ?_) | with_reducible refine And.intro (fun (_ : false = false) => ?_) (fun (e : false = true) => Bool.noConfusion e)
  | with_reducible refine And.intro (fun (e : (!true) = true) => (nt_t e).elim) (fun (_ : (!true) = false) => ?_) | with_reducible refine And.intro (fun (_ : (!false) = true) => ?_) (fun (e : (!false) = false) => (nf_f e).elim)
  | with_reducible refine And.intro (fun (_ : (!true) = false) => ?_) (fun (e : (!true) = true) => (nt_t e).elim) | with_reducible refine And.intro (fun (e : (!false) = false) => (nf_f e).elim) (fun (_ : (!false) = true) => ?_)
  | with_reducible refine @And.intro (_ = true → _) (_ = false → _) ?_ ?_ | with_reducible refine @And.intro (_ = false → _) (_ = true → _) ?_ ?_
  | (with_reducible refine And.intro ?k1 ?_; (case k1 => exact Nat.le_of_ble_eq_true rfl)))
local macro_rules | `(tactic| k_state_short () "gws") => `(tactic| first | exact gws_nil | (refine gws_cons gmono_name (gw_name (by decide)) ?_; k_state_short () "gws"))
local macro_rules | `(tactic| k_state_short () "gw") => `(tactic| first | exact gw_name (by decide) | (refine gw_tup ?_; k_state_short () "gws"))
local macro_rules | `(tactic| k_state_short () "d1") => `(tactic| first | k_state_short () "s1" | k_state_short () "e1" | k_state_short () "r1" | k_state_short () "x1")
local macro_rules | `(tactic| k_state_short () "d") => `(tactic| repeat k_state_short () "d1")
def sp_law : DSp := fun ds h Q _ => ∃ ns : List Int, ds = [.rd (ns.map D.int)] ∧ ns.length ≤ 63 ∧ ∀ h', Q (.bl true) h'
theorem pr_law {K : PySem.W.Frag} : ∀ ds h QD QX, sp_law ds h QD QX → dB K (t_law K sp_one sp_pool) N_law ds h QD := by
  rintro ds h QD QX ⟨ns, rfl, hz, k⟩
  k_state_short () "d"
  refine s_for ?_
  k_state_short () "d"
  refine e_lstF ?_
  k_state_short () "d"
  refine e_slL (e_var rfl (o_none (o_some (e_int ⟨63, rfl, ⟨_, .rd _, ?_⟩⟩))))
  have ec : ∃ ms : List Int, DL.cutD (ns.map D.int) none (some 63) = ms.map D.int ∧ ms.length ≤ 63 := by
    refine ⟨(ns.drop 0).take (HT.sIx (ns.map D.int).length (ns.map D.int).length (some 63) - 0), ?_, ?_⟩
    · unfold DL.cutD
      rw [HT.sIx_none, List.map_take, List.map_drop]
    · rw [List.length_take, List.drop_zero]; omega
  obtain ⟨ms, em, mz⟩ := ec
  rw [em]
  k_state_short () "d"
  refine r_addL (.frz _) (.frz _) (by rw [List.length_map]; simp only [List.length_cons, List.length_nil]; omega) ?_
  rw [show [D.int 0] ++ ms.map D.int = (0 :: ms).map D.int from rfl]
  k_state_short () "d"
  refine ⟨_, .lst (.frz _), fun i δ' h' => ∃ x, δ' = [some (.rd (ns.map D.int)), x], ⟨_, rfl⟩, fun _ _ _ _ => .lst (.frz _), ?_, ?_⟩
  · rintro i d δ' h' hd ⟨x, rfl⟩
    rw [List.getElem?_map] at hd
    obtain ⟨c, hc, rfl⟩ := Option.map_eq_some_iff.mp hd
    k_state_short () "d"
    refine ⟨c, rfl, fun p a b z hp => ?_⟩
    k_state_short () "d"
    refine ⟨p, rfl, ⟨_, _, _, du_same⟩, fun h2 => ?_⟩
    k_state_short () "d"
    exact ⟨_, rfl⟩
  · rintro δ' h' ⟨x, rfl⟩
    k_state_short () "d"
    exact k h'
end Lw
set_option maxHeartbeats 0
namespace Lw
open PySem PySem.Spec PyProof.Rows L2 DL
theorem len_is_number : ∀ ds h QD QX, sp_is_number ds h QD QX → ds.length = 1 := by
  intro ds h QD QX hs
  unfold sp_is_number at hs
  repeat (obtain ⟨_, hs⟩ := hs)
  all_goals (first | (obtain ⟨rfl, _⟩ := hs; rfl) | (subst_vars; rfl))
theorem len_is_within : ∀ ds h QD QX, sp_is_within ds h QD QX → ds.length = 3 := by
  intro ds h QD QX hs
  unfold sp_is_within at hs
  repeat (obtain ⟨_, hs⟩ := hs)
  all_goals (first | (obtain ⟨rfl, _⟩ := hs; rfl) | (subst_vars; rfl))
theorem len_is_listed : ∀ ds h QD QX, sp_is_listed ds h QD QX → ds.length = 2 := by
  intro ds h QD QX hs
  unfold sp_is_listed at hs
  repeat (obtain ⟨_, hs⟩ := hs)
  all_goals (first | (obtain ⟨rfl, _⟩ := hs; rfl) | (subst_vars; rfl))
theorem len_is_road : ∀ ds h QD QX, sp_is_road ds h QD QX → ds.length = 2 := by
  intro ds h QD QX hs
  unfold sp_is_road at hs
  repeat (obtain ⟨_, hs⟩ := hs)
  all_goals (first | (obtain ⟨rfl, _⟩ := hs; rfl) | (subst_vars; rfl))
theorem len_are_roads : ∀ ds h QD QX, sp_are_roads ds h QD QX → ds.length = 2 := by
  intro ds h QD QX hs
  unfold sp_are_roads at hs
  repeat (obtain ⟨_, hs⟩ := hs)
  all_goals (first | (obtain ⟨rfl, _⟩ := hs; rfl) | (subst_vars; rfl))
theorem len_are_hourly : ∀ ds h QD QX, sp_are_hourly ds h QD QX → ds.length = 2 := by
  intro ds h QD QX hs
  unfold sp_are_hourly at hs
  repeat (obtain ⟨_, hs⟩ := hs)
  all_goals (first | (obtain ⟨rfl, _⟩ := hs; rfl) | (subst_vars; rfl))
theorem len_are_rooms : ∀ ds h QD QX, sp_are_rooms ds h QD QX → ds.length = 3 := by
  intro ds h QD QX hs
  unfold sp_are_rooms at hs
  repeat (obtain ⟨_, hs⟩ := hs)
  all_goals (first | (obtain ⟨rfl, _⟩ := hs; rfl) | (subst_vars; rfl))
theorem len_are_waits : ∀ ds h QD QX, sp_are_waits ds h QD QX → ds.length = 3 := by
  intro ds h QD QX hs
  unfold sp_are_waits at hs
  repeat (obtain ⟨_, hs⟩ := hs)
  all_goals (first | (obtain ⟨rfl, _⟩ := hs; rfl) | (subst_vars; rfl))
theorem len_taken_row : ∀ ds h QD QX, sp_taken_row ds h QD QX → ds.length = 1 := by
  intro ds h QD QX hs
  unfold sp_taken_row at hs
  repeat (obtain ⟨_, hs⟩ := hs)
  all_goals (first | (obtain ⟨rfl, _⟩ := hs; rfl) | (subst_vars; rfl))
theorem len_made_calendar : ∀ ds h QD QX, sp_made_calendar ds h QD QX → ds.length = 5 := by
  intro ds h QD QX hs
  unfold sp_made_calendar at hs
  repeat (obtain ⟨_, hs⟩ := hs)
  all_goals (first | (obtain ⟨rfl, _⟩ := hs; rfl) | (subst_vars; rfl))
theorem len_net_calendar : ∀ ds h QD QX, sp_net_calendar ds h QD QX → ds.length = 2 := by
  intro ds h QD QX hs
  unfold sp_net_calendar at hs
  repeat (obtain ⟨_, hs⟩ := hs)
  all_goals (first | (obtain ⟨rfl, _⟩ := hs; rfl) | (subst_vars; rfl))
theorem len__law_pool : ∀ ds h QD QX, sp_pool ds h QD QX → ds.length = 1 := by
  intro ds h QD QX hs
  unfold sp_pool at hs
  repeat (obtain ⟨_, hs⟩ := hs)
  all_goals (first | (obtain ⟨rfl, _⟩ := hs; rfl) | (subst_vars; rfl))
theorem len__law_next : ∀ ds h QD QX, sp_next ds h QD QX → ds.length = 2 := by
  intro ds h QD QX hs
  unfold sp_next at hs
  repeat (obtain ⟨_, hs⟩ := hs)
  all_goals (first | (obtain ⟨rfl, _⟩ := hs; rfl) | (subst_vars; rfl))
theorem len__law_wide : ∀ ds h QD QX, sp_wide ds h QD QX → ds.length = 2 := by
  intro ds h QD QX hs
  unfold sp_wide at hs
  repeat (obtain ⟨_, hs⟩ := hs)
  all_goals (first | (obtain ⟨rfl, _⟩ := hs; rfl) | (subst_vars; rfl))
theorem len__law_roads : ∀ ds h QD QX, sp_roads ds h QD QX → ds.length = 2 := by
  intro ds h QD QX hs
  unfold sp_roads at hs
  repeat (obtain ⟨_, hs⟩ := hs)
  all_goals (first | (obtain ⟨rfl, _⟩ := hs; rfl) | (subst_vars; rfl))
theorem len__law_rows : ∀ ds h QD QX, sp_rows ds h QD QX → ds.length = 3 := by
  intro ds h QD QX hs
  unfold sp_rows at hs
  repeat (obtain ⟨_, hs⟩ := hs)
  all_goals (first | (obtain ⟨rfl, _⟩ := hs; rfl) | (subst_vars; rfl))
theorem len__law_as : ∀ ds h QD QX, sp_as ds h QD QX → ds.length = 2 := by
  intro ds h QD QX hs
  unfold sp_as at hs
  repeat (obtain ⟨_, hs⟩ := hs)
  all_goals (first | (obtain ⟨rfl, _⟩ := hs; rfl) | (subst_vars; rfl))
theorem len__law_same (n : Nat) : ∀ ds h QD QX, sp_same n ds h QD QX → ds.length = 2 := by
  intro ds h QD QX hs
  unfold sp_same at hs
  obtain ⟨_, rfl, _⟩ := hs
  rfl
theorem len__law_flat : ∀ ds h QD QX, sp_flat ds h QD QX → ds.length = 1 := by
  intro ds h QD QX hs
  unfold sp_flat at hs
  repeat (obtain ⟨_, hs⟩ := hs)
  all_goals (first | (obtain ⟨rfl, _⟩ := hs; rfl) | (subst_vars; rfl))
theorem len__law_emptied : ∀ ds h QD QX, sp_emptied ds h QD QX → ds.length = 1 := by
  intro ds h QD QX hs
  unfold sp_emptied at hs
  repeat (obtain ⟨_, hs⟩ := hs)
  all_goals (first | (obtain ⟨rfl, _⟩ := hs; rfl) | (subst_vars; rfl))
theorem len__law_one : ∀ ds h QD QX, sp_one ds h QD QX → ds.length = 1 := by
  intro ds h QD QX hs
  unfold sp_one at hs
  repeat (obtain ⟨_, hs⟩ := hs)
  all_goals (first | (obtain ⟨rfl, _⟩ := hs; rfl) | (subst_vars; rfl))
theorem len_law : ∀ ds h QD QX, sp_law ds h QD QX → ds.length = 1 := by
  intro ds h QD QX hs
  unfold sp_law at hs
  repeat (obtain ⟨_, hs⟩ := hs)
  all_goals (first | (obtain ⟨rfl, _⟩ := hs; rfl) | (subst_vars; rfl))
def d_is_number : He.DefD := ⟨("is_number", none), "is_number", "is_number", defArgs st_is_number, defBody st_is_number, defScope st_is_number, [], []⟩
def d_is_within : He.DefD := ⟨("is_within", none), "is_within", "is_within", defArgs st_is_within, defBody st_is_within, defScope st_is_within, [], []⟩
def d_is_listed : He.DefD := ⟨("is_listed", none), "is_listed", "is_listed", defArgs st_is_listed, defBody st_is_listed, defScope st_is_listed, [], []⟩
def d_is_road : He.DefD := ⟨("is_road", none), "is_road", "is_road", defArgs st_is_road, defBody st_is_road, defScope st_is_road, [], []⟩
def d_are_roads : He.DefD := ⟨("are_roads", none), "are_roads", "are_roads", defArgs st_are_roads, defBody st_are_roads, defScope st_are_roads, [], []⟩
def d_are_hourly : He.DefD := ⟨("are_hourly", none), "are_hourly", "are_hourly", defArgs st_are_hourly, defBody st_are_hourly, defScope st_are_hourly, [], []⟩
def d_are_rooms : He.DefD := ⟨("are_rooms", none), "are_rooms", "are_rooms", defArgs st_are_rooms, defBody st_are_rooms, defScope st_are_rooms, [], []⟩
def d_are_waits : He.DefD := ⟨("are_waits", none), "are_waits", "are_waits", defArgs st_are_waits, defBody st_are_waits, defScope st_are_waits, [], []⟩
def d_taken_row : He.DefD := ⟨("taken_row", none), "taken_row", "taken_row", defArgs st_taken_row, defBody st_taken_row, defScope st_taken_row, [], []⟩
def d_made_calendar : He.DefD := ⟨("made_calendar", none), "made_calendar", "made_calendar", defArgs st_made_calendar, defBody st_made_calendar, defScope st_made_calendar, [], []⟩
def d_net_calendar : He.DefD := ⟨("net_calendar", none), "net_calendar", "net_calendar", defArgs st_net_calendar, defBody st_net_calendar, defScope st_net_calendar, [], []⟩
def d__law_pool : He.DefD := ⟨("_law_pool", none), "_law_pool", "_law_pool", defArgs st__law_pool, defBody st__law_pool, defScope st__law_pool, [], []⟩
def d__law_next : He.DefD := ⟨("_law_next", none), "_law_next", "_law_next", defArgs st__law_next, defBody st__law_next, defScope st__law_next, [], []⟩
def d__law_wide : He.DefD := ⟨("_law_wide", none), "_law_wide", "_law_wide", defArgs st__law_wide, defBody st__law_wide, defScope st__law_wide, [], []⟩
def d__law_roads : He.DefD := ⟨("_law_roads", none), "_law_roads", "_law_roads", defArgs st__law_roads, defBody st__law_roads, defScope st__law_roads, [], []⟩
def d__law_rows : He.DefD := ⟨("_law_rows", none), "_law_rows", "_law_rows", defArgs st__law_rows, defBody st__law_rows, defScope st__law_rows, [], []⟩
def d__law_as : He.DefD := ⟨("_law_as", none), "_law_as", "_law_as", defArgs st__law_as, defBody st__law_as, defScope st__law_as, [], []⟩
def d__law_same : He.DefD := ⟨("_law_same", none), "_law_same", "_law_same", defArgs st__law_same, defBody st__law_same, defScope st__law_same, [], []⟩
def d__law_flat : He.DefD := ⟨("_law_flat", none), "_law_flat", "_law_flat", defArgs st__law_flat, defBody st__law_flat, defScope st__law_flat, [], []⟩
def d__law_emptied : He.DefD := ⟨("_law_emptied", none), "_law_emptied", "_law_emptied", defArgs st__law_emptied, defBody st__law_emptied, defScope st__law_emptied, [], []⟩
def d__law_one : He.DefD := ⟨("_law_one", none), "_law_one", "_law_one", defArgs st__law_one, defBody st__law_one, defScope st__law_one, [], []⟩
def d_law : He.DefD := ⟨("law", none), "law", "law", defArgs st_law, defBody st_law, defScope st_law, [], []⟩
def fn : List He.DefD := [d_is_number, d_is_within, d_is_listed, d_is_road, d_are_roads, d_are_hourly, d_are_rooms, d_are_waits, d_taken_row, d_made_calendar, d_net_calendar, d__law_pool, d__law_next, d__law_wide, d__law_roads, d__law_rows, d__law_as, d__law_same, d__law_flat, d__law_emptied, d__law_one, d_law]
def fa : List He.Fa := [.glo "is_number", .glo "is_within", .glo "is_listed", .glo "is_road", .glo "are_roads", .glo "are_hourly", .glo "are_rooms", .glo "are_waits", .glo "taken_row", .glo "made_calendar", .glo "net_calendar", .glo "_law_pool", .glo "_law_next", .glo "_law_wide", .glo "_law_roads", .glo "_law_rows", .glo "_law_as", .glo "_law_same", .glo "_law_flat", .glo "_law_emptied", .glo "_law_one", .glo "law", .free "abs", .free "all", .free "bool", .free "int", .free "isinstance", .free "len", .free "list", .free "max", .free "range", .free "tuple", .free "zip", .int "GREATEST_HOURS" 1000000, .int "MOST_WAYS" 12, .int "GREATEST_ROOM" 1000000000, .int "MOST_PLACES" 6, .int "LEAST_PLACES" 2, .int "MOST_LAST" 12]
def loose0 : List Str := ["__name__", "HaulError", "BadTable", "LEAST_PLACES", "MOST_PLACES", "MOST_WAYS", "GREATEST_ROOM", "GREATEST_HOURS", "is_number", "is_within", "MOST_LAST", "is_listed", "is_road", "are_roads", "are_hourly", "are_rooms", "are_waits", "taken_row", "made_calendar", "net_calendar", "_law_pool", "_law_next", "_law_wide", "_law_roads", "_law_rows", "_law_as", "_law_same", "_law_flat", "_law_emptied", "_law_one"]
def loose : List Str := loose0
abbrev R : PySem.W.OpenRow := PySem.W.OpenLaw.row PySem.Challenge.rw_hourhaul_k57_calendars_made
abbrev hk : PySem.W.Hook := He.hookD 4 fa fn
def ob (s : PySem.W.SharedT) : He.AlD := He.obsDG 4 fa fn (HandSHeadRun.getT s)
theorem ob_eq (s : PySem.W.SharedT) : ob s = hk.obs s.abs := He.obsDG_eq (HandSHeadRun.getT_eq s)
theorem run (w : World) : HandSHeadRun.RunEq R (PySem.W.view R.prog [33]) hk ob 3000 loose w := by
  intro os
  kernel_rfl
theorem facts {P : Program} {w : World} {K : PySem.W.Frag} {h : Heap} {mg : Str → Option Value} {f : Addr} (X : K.In h) (G : h.Ns mainGlobals mg) (hfa : mg ("law" : Str) = some (.ref f)) (c : He.SaysD fa fn K) :
    ∃ fd : FuncData, (∀ (s : Shared) (v : Value), BindsTo s fd ⟨[v], []⟩ [("script", v)]) ∧ ∀ base : Heap, K.In base → base.Ns mainGlobals mg → FnOk P w K mg base CX0 7 f fd ["script"] (upSp K sp_law) := by
  have T : Txt mg := ⟨He.free_ok X G (c.fact 22 (f := .free "abs") rfl), He.free_ok X G (c.fact 23 (f := .free "all") rfl), He.free_ok X G (c.fact 24 (f := .free "bool") rfl), He.free_ok X G (c.fact 25 (f := .free "int") rfl), He.free_ok X G (c.fact 26 (f := .free "isinstance") rfl), He.free_ok X G (c.fact 27 (f := .free "len") rfl), He.free_ok X G (c.fact 28 (f := .free "list") rfl), He.free_ok X G (c.fact 29 (f := .free "max") rfl), He.free_ok X G (c.fact 30 (f := .free "range") rfl), He.free_ok X G (c.fact 31 (f := .free "tuple") rfl), He.free_ok X G (c.fact 32 (f := .free "zip") rfl), intD (X := X) X G (c.fact 33 (f := .int "GREATEST_HOURS" 1000000) rfl), intD (X := X) X G (c.fact 34 (f := .int "MOST_WAYS" 12) rfl), intD (X := X) X G (c.fact 35 (f := .int "GREATEST_ROOM" 1000000000) rfl), intD (X := X) X G (c.fact 36 (f := .int "MOST_PLACES" 6) rfl), intD (X := X) X G (c.fact 37 (f := .int "LEAST_PLACES" 2) rfl), intD (X := X) X G (c.fact 38 (f := .int "MOST_LAST" 12) rfl)⟩
  obtain ⟨fd_is_number, F0_is_number⟩ := c.def_ 0 (d := d_is_number) rfl
  have F_is_number : FunD K "is_number" "is_number" (defArgs st_is_number) (defBody st_is_number) (defScope st_is_number) [] [] (He.ga K "is_number") fd_is_number := F0_is_number
  clear F0_is_number
  have g_is_number := He.glo_ok X G (c.fact 0 (f := .glo "is_number") rfl)
  have b_is_number : Binds K fd_is_number ["thing"] [] := FunD.bindsN F_is_number fun _ _ _ _ _ _ us hl => match us, hl with | [_], _ => rfl
  have k_is_number : ∀ base : Heap, C8.Cal P w K mg base 1 "is_number" (upSp K sp_is_number) [] := fun base => calD F_is_number g_is_number b_is_number sc_is_number len_is_number (fun cdv A outer s H E hr => tm_is_number T  hr) pr_is_number
  obtain ⟨fd_is_within, F0_is_within⟩ := c.def_ 1 (d := d_is_within) rfl
  have F_is_within : FunD K "is_within" "is_within" (defArgs st_is_within) (defBody st_is_within) (defScope st_is_within) [] [] (He.ga K "is_within") fd_is_within := F0_is_within
  clear F0_is_within
  have g_is_within := He.glo_ok X G (c.fact 1 (f := .glo "is_within") rfl)
  have b_is_within : Binds K fd_is_within ["thing", "low", "high"] [] := FunD.bindsN F_is_within fun _ _ _ _ _ _ us hl => match us, hl with | [_, _, _], _ => rfl
  have k_is_within : ∀ base : Heap, C8.Cal P w K mg base 2 "is_within" (upSp K sp_is_within) [] := fun base => calD F_is_within g_is_within b_is_within sc_is_within len_is_within (fun cdv A outer s H E hr => tm_is_within T (k_is_number base) (by decide) hr) pr_is_within
  obtain ⟨fd_is_listed, F0_is_listed⟩ := c.def_ 2 (d := d_is_listed) rfl
  have F_is_listed : FunD K "is_listed" "is_listed" (defArgs st_is_listed) (defBody st_is_listed) (defScope st_is_listed) [] [] (He.ga K "is_listed") fd_is_listed := F0_is_listed
  clear F0_is_listed
  have g_is_listed := He.glo_ok X G (c.fact 2 (f := .glo "is_listed") rfl)
  have b_is_listed : Binds K fd_is_listed ["thing", "length"] [] := FunD.bindsN F_is_listed fun _ _ _ _ _ _ us hl => match us, hl with | [_, _], _ => rfl
  have k_is_listed : ∀ base : Heap, C8.Cal P w K mg base 1 "is_listed" (upSp K sp_is_listed) [] := fun base => calD F_is_listed g_is_listed b_is_listed sc_is_listed len_is_listed (fun cdv A outer s H E hr => tm_is_listed T  hr) pr_is_listed
  obtain ⟨fd_is_road, F0_is_road⟩ := c.def_ 3 (d := d_is_road) rfl
  have F_is_road : FunD K "is_road" "is_road" (defArgs st_is_road) (defBody st_is_road) (defScope st_is_road) [] [] (He.ga K "is_road") fd_is_road := F0_is_road
  clear F0_is_road
  have g_is_road := He.glo_ok X G (c.fact 3 (f := .glo "is_road") rfl)
  have b_is_road : Binds K fd_is_road ["thing", "many"] [] := FunD.bindsN F_is_road fun _ _ _ _ _ _ us hl => match us, hl with | [_, _], _ => rfl
  have k_is_road : ∀ base : Heap, C8.Cal P w K mg base 3 "is_road" (upSp K sp_is_road) [] := fun base => calD F_is_road g_is_road b_is_road sc_is_road len_is_road (fun cdv A outer s H E hr => tm_is_road T (k_is_listed base) (by decide) (k_is_within base) (by decide) hr) pr_is_road
  obtain ⟨fd_are_roads, F0_are_roads⟩ := c.def_ 4 (d := d_are_roads) rfl
  have F_are_roads : FunD K "are_roads" "are_roads" (defArgs st_are_roads) (defBody st_are_roads) (defScope st_are_roads) [] [] (He.ga K "are_roads") fd_are_roads := F0_are_roads
  clear F0_are_roads
  have g_are_roads := He.glo_ok X G (c.fact 4 (f := .glo "are_roads") rfl)
  have b_are_roads : Binds K fd_are_roads ["thing", "many"] [] := FunD.bindsN F_are_roads fun _ _ _ _ _ _ us hl => match us, hl with | [_, _], _ => rfl
  have k_are_roads : ∀ base : Heap, C8.Cal P w K mg base 4 "are_roads" (upSp K sp_are_roads) [] := fun base => calD F_are_roads g_are_roads b_are_roads sc_are_roads len_are_roads (fun cdv A outer s H E hr => tm_are_roads T (k_is_road base) (by decide) hr) pr_are_roads
  obtain ⟨fd_are_hourly, F0_are_hourly⟩ := c.def_ 5 (d := d_are_hourly) rfl
  have F_are_hourly : FunD K "are_hourly" "are_hourly" (defArgs st_are_hourly) (defBody st_are_hourly) (defScope st_are_hourly) [] [] (He.ga K "are_hourly") fd_are_hourly := F0_are_hourly
  clear F0_are_hourly
  have g_are_hourly := He.glo_ok X G (c.fact 5 (f := .glo "are_hourly") rfl)
  have b_are_hourly : Binds K fd_are_hourly ["thing", "length"] [] := FunD.bindsN F_are_hourly fun _ _ _ _ _ _ us hl => match us, hl with | [_, _], _ => rfl
  have k_are_hourly : ∀ base : Heap, C8.Cal P w K mg base 3 "are_hourly" (upSp K sp_are_hourly) [] := fun base => calD F_are_hourly g_are_hourly b_are_hourly sc_are_hourly len_are_hourly (fun cdv A outer s H E hr => tm_are_hourly T (k_is_listed base) (by decide) (k_is_within base) (by decide) hr) pr_are_hourly
  obtain ⟨fd_are_rooms, F0_are_rooms⟩ := c.def_ 6 (d := d_are_rooms) rfl
  have F_are_rooms : FunD K "are_rooms" "are_rooms" (defArgs st_are_rooms) (defBody st_are_rooms) (defScope st_are_rooms) [] [] (He.ga K "are_rooms") fd_are_rooms := F0_are_rooms
  clear F0_are_rooms
  have g_are_rooms := He.glo_ok X G (c.fact 6 (f := .glo "are_rooms") rfl)
  have b_are_rooms : Binds K fd_are_rooms ["thing", "ways", "last"] [] := FunD.bindsN F_are_rooms fun _ _ _ _ _ _ us hl => match us, hl with | [_, _, _], _ => rfl
  have k_are_rooms : ∀ base : Heap, C8.Cal P w K mg base 4 "are_rooms" (upSp K sp_are_rooms) [] := fun base => calD F_are_rooms g_are_rooms b_are_rooms sc_are_rooms len_are_rooms (fun cdv A outer s H E hr => tm_are_rooms T (k_is_listed base) (by decide) (k_are_hourly base) (by decide) hr) pr_are_rooms
  obtain ⟨fd_are_waits, F0_are_waits⟩ := c.def_ 7 (d := d_are_waits) rfl
  have F_are_waits : FunD K "are_waits" "are_waits" (defArgs st_are_waits) (defBody st_are_waits) (defScope st_are_waits) [] [] (He.ga K "are_waits") fd_are_waits := F0_are_waits
  clear F0_are_waits
  have g_are_waits := He.glo_ok X G (c.fact 7 (f := .glo "are_waits") rfl)
  have b_are_waits : Binds K fd_are_waits ["thing", "many", "last"] [] := FunD.bindsN F_are_waits fun _ _ _ _ _ _ us hl => match us, hl with | [_, _, _], _ => rfl
  have k_are_waits : ∀ base : Heap, C8.Cal P w K mg base 4 "are_waits" (upSp K sp_are_waits) [] := fun base => calD F_are_waits g_are_waits b_are_waits sc_are_waits len_are_waits (fun cdv A outer s H E hr => tm_are_waits T (k_is_listed base) (by decide) (k_are_hourly base) (by decide) hr) pr_are_waits
  obtain ⟨fd_taken_row, F0_taken_row⟩ := c.def_ 8 (d := d_taken_row) rfl
  have F_taken_row : FunD K "taken_row" "taken_row" (defArgs st_taken_row) (defBody st_taken_row) (defScope st_taken_row) [] [] (He.ga K "taken_row") fd_taken_row := F0_taken_row
  clear F0_taken_row
  have g_taken_row := He.glo_ok X G (c.fact 8 (f := .glo "taken_row") rfl)
  have b_taken_row : Binds K fd_taken_row ["row"] [] := FunD.bindsN F_taken_row fun _ _ _ _ _ _ us hl => match us, hl with | [_], _ => rfl
  have k_taken_row : ∀ base : Heap, C8.Cal P w K mg base 1 "taken_row" (upSp K sp_taken_row) [] := fun base => calD F_taken_row g_taken_row b_taken_row sc_taken_row len_taken_row (fun cdv A outer s H E hr => tm_taken_row T  hr) pr_taken_row
  obtain ⟨fd_made_calendar, F0_made_calendar⟩ := c.def_ 9 (d := d_made_calendar) rfl
  have F_made_calendar : FunD K "made_calendar" "made_calendar" (defArgs st_made_calendar) (defBody st_made_calendar) (defScope st_made_calendar) [] [] (He.ga K "made_calendar") fd_made_calendar := F0_made_calendar
  clear F0_made_calendar
  have g_made_calendar := He.glo_ok X G (c.fact 9 (f := .glo "made_calendar") rfl)
  have b_made_calendar : Binds K fd_made_calendar ["many", "last", "ways", "rooms", "waits"] [] := FunD.bindsN F_made_calendar fun _ _ _ _ _ _ us hl => match us, hl with | [_, _, _, _, _], _ => rfl
  have k_made_calendar : ∀ base : Heap, C8.Cal P w K mg base 5 "made_calendar" (upSp K sp_made_calendar) [] := fun base => calD F_made_calendar g_made_calendar b_made_calendar sc_made_calendar len_made_calendar (fun cdv A outer s H E hr => tm_made_calendar T (k_is_within base) (by decide) (k_are_roads base) (by decide) (k_are_rooms base) (by decide) (k_are_waits base) (by decide) (k_taken_row base) (by decide) hr) pr_made_calendar
  obtain ⟨fd_net_calendar, F0_net_calendar⟩ := c.def_ 10 (d := d_net_calendar) rfl
  have F_net_calendar : FunD K "net_calendar" "net_calendar" (defArgs st_net_calendar) (defBody st_net_calendar) (defScope st_net_calendar) [] [] (He.ga K "net_calendar") fd_net_calendar := F0_net_calendar
  clear F0_net_calendar
  have g_net_calendar := He.glo_ok X G (c.fact 10 (f := .glo "net_calendar") rfl)
  have b_net_calendar : Binds K fd_net_calendar ["net", "last"] [] := FunD.bindsN F_net_calendar fun _ _ _ _ _ _ us hl => match us, hl with | [_, _], _ => rfl
  have k_net_calendar : ∀ base : Heap, C8.Cal P w K mg base 1 "net_calendar" (upSp K sp_net_calendar) [] := fun base => calD F_net_calendar g_net_calendar b_net_calendar sc_net_calendar len_net_calendar (fun cdv A outer s H E hr => tm_net_calendar T  hr) pr_net_calendar
  obtain ⟨fd__law_pool, F0__law_pool⟩ := c.def_ 11 (d := d__law_pool) rfl
  have F__law_pool : FunD K "_law_pool" "_law_pool" (defArgs st__law_pool) (defBody st__law_pool) (defScope st__law_pool) [] [] (He.ga K "_law_pool") fd__law_pool := F0__law_pool
  clear F0__law_pool
  have g__law_pool := He.glo_ok X G (c.fact 11 (f := .glo "_law_pool") rfl)
  have b__law_pool : Binds K fd__law_pool ["cell"] [] := FunD.bindsN F__law_pool fun _ _ _ _ _ _ us hl => match us, hl with | [_], _ => rfl
  have k__law_pool : ∀ base : Heap, C8.Cal P w K mg base 1 "_law_pool" (upSp K sp_pool) [] := fun base => calD F__law_pool g__law_pool b__law_pool sc__law_pool len__law_pool (fun cdv A outer s H E hr => tm__law_pool T  hr) pr_pool
  obtain ⟨fd__law_next, F0__law_next⟩ := c.def_ 12 (d := d__law_next) rfl
  have F__law_next : FunD K "_law_next" "_law_next" (defArgs st__law_next) (defBody st__law_next) (defScope st__law_next) [] [] (He.ga K "_law_next") fd__law_next := F0__law_next
  clear F0__law_next
  have g__law_next := He.glo_ok X G (c.fact 12 (f := .glo "_law_next") rfl)
  have b__law_next : Binds K fd__law_next ["pool", "base"] [] := FunD.bindsN F__law_next fun _ _ _ _ _ _ us hl => match us, hl with | [_, _], _ => rfl
  have k__law_next : ∀ base : Heap, C8.Cal P w K mg base 1 "_law_next" (upSp K sp_next) [] := fun base => calD F__law_next g__law_next b__law_next sc__law_next len__law_next (fun cdv A outer s H E hr => tm__law_next T  hr) pr_next
  obtain ⟨fd__law_wide, F0__law_wide⟩ := c.def_ 13 (d := d__law_wide) rfl
  have F__law_wide : FunD K "_law_wide" "_law_wide" (defArgs st__law_wide) (defBody st__law_wide) (defScope st__law_wide) [] [] (He.ga K "_law_wide") fd__law_wide := F0__law_wide
  clear F0__law_wide
  have g__law_wide := He.glo_ok X G (c.fact 13 (f := .glo "_law_wide") rfl)
  have b__law_wide : Binds K fd__law_wide ["pool", "base"] [] := FunD.bindsN F__law_wide fun _ _ _ _ _ _ us hl => match us, hl with | [_, _], _ => rfl
  have k__law_wide : ∀ base : Heap, C8.Cal P w K mg base 2 "_law_wide" (upSp K sp_wide) [] := fun base => calD F__law_wide g__law_wide b__law_wide sc__law_wide len__law_wide (fun cdv A outer s H E hr => tm__law_wide T (k__law_next base) (by decide) hr) pr_wide
  obtain ⟨fd__law_roads, F0__law_roads⟩ := c.def_ 14 (d := d__law_roads) rfl
  have F__law_roads : FunD K "_law_roads" "_law_roads" (defArgs st__law_roads) (defBody st__law_roads) (defScope st__law_roads) [] [] (He.ga K "_law_roads") fd__law_roads := F0__law_roads
  clear F0__law_roads
  have g__law_roads := He.glo_ok X G (c.fact 14 (f := .glo "_law_roads") rfl)
  have b__law_roads : Binds K fd__law_roads ["pool", "many"] [] := FunD.bindsN F__law_roads fun _ _ _ _ _ _ us hl => match us, hl with | [_, _], _ => rfl
  have k__law_roads : ∀ base : Heap, C8.Cal P w K mg base 3 "_law_roads" (upSp K sp_roads) [] := fun base => calD F__law_roads g__law_roads b__law_roads sc__law_roads len__law_roads (fun cdv A outer s H E hr => tm__law_roads T (k__law_next base) (by decide) (k__law_wide base) (by decide) hr) pr_roads
  obtain ⟨fd__law_rows, F0__law_rows⟩ := c.def_ 15 (d := d__law_rows) rfl
  have F__law_rows : FunD K "_law_rows" "_law_rows" (defArgs st__law_rows) (defBody st__law_rows) (defScope st__law_rows) [] [] (He.ga K "_law_rows") fd__law_rows := F0__law_rows
  clear F0__law_rows
  have g__law_rows := He.glo_ok X G (c.fact 15 (f := .glo "_law_rows") rfl)
  have b__law_rows : Binds K fd__law_rows ["pool", "many", "length"] [] := FunD.bindsN F__law_rows fun _ _ _ _ _ _ us hl => match us, hl with | [_, _, _], _ => rfl
  have k__law_rows : ∀ base : Heap, C8.Cal P w K mg base 3 "_law_rows" (upSp K sp_rows) [] := fun base => calD F__law_rows g__law_rows b__law_rows sc__law_rows len__law_rows (fun cdv A outer s H E hr => tm__law_rows T (k__law_next base) (by decide) (k__law_wide base) (by decide) hr) pr_rows
  obtain ⟨fd__law_as, F0__law_as⟩ := c.def_ 16 (d := d__law_as) rfl
  have F__law_as : FunD K "_law_as" "_law_as" (defArgs st__law_as) (defBody st__law_as) (defScope st__law_as) [] [] (He.ga K "_law_as") fd__law_as := F0__law_as
  clear F0__law_as
  have g__law_as := He.glo_ok X G (c.fact 16 (f := .glo "_law_as") rfl)
  have b__law_as : Binds K fd__law_as ["pool", "row"] [] := FunD.bindsN F__law_as fun _ _ _ _ _ _ us hl => match us, hl with | [_, _], _ => rfl
  have k__law_as : ∀ base : Heap, C8.Cal P w K mg base 2 "_law_as" (upSp K sp_as) [] := fun base => calD F__law_as g__law_as b__law_as sc__law_as len__law_as (fun cdv A outer s H E hr => tm__law_as T (k__law_next base) (by decide) hr) pr_as
  obtain ⟨fd__law_same, F0__law_same⟩ := c.def_ 17 (d := d__law_same) rfl
  have F__law_same : FunD K "_law_same" "_law_same" (defArgs st__law_same) (defBody st__law_same) (defScope st__law_same) [] [] (He.ga K "_law_same") fd__law_same := F0__law_same
  clear F0__law_same
  have g__law_same := He.glo_ok X G (c.fact 17 (f := .glo "_law_same") rfl)
  have b__law_same : Binds K fd__law_same ["found", "due"] [] := FunD.bindsN F__law_same fun _ _ _ _ _ _ us hl => match us, hl with | [_, _], _ => rfl
  have k__law_same_0 : ∀ base : Heap, C8.Cal P w K mg base 0 "_law_same" (upSp K spNever) [] := fun base => calNever g__law_same F__law_same.kp b__law_same
  have k__law_same_1 : ∀ base : Heap, C8.Cal P w K mg base 1 "_law_same" (upSp K (sp_same 0)) [] := fun base => calD F__law_same g__law_same b__law_same sc__law_same (len__law_same 0) (fun cdv A outer s H E hr => tm__law_same T (k__law_same_0 base) (by decide) hr) (pr_same 0 spNever (.inl rfl))
  have k__law_same_2 : ∀ base : Heap, C8.Cal P w K mg base 2 "_law_same" (upSp K (sp_same 1)) [] := fun base => calD F__law_same g__law_same b__law_same sc__law_same (len__law_same 1) (fun cdv A outer s H E hr => tm__law_same T (k__law_same_1 base) (by decide) hr) (pr_same 1 (sp_same 0) (.inr ⟨0, rfl, rfl⟩))
  have k__law_same_3 : ∀ base : Heap, C8.Cal P w K mg base 3 "_law_same" (upSp K (sp_same 2)) [] := fun base => calD F__law_same g__law_same b__law_same sc__law_same (len__law_same 2) (fun cdv A outer s H E hr => tm__law_same T (k__law_same_2 base) (by decide) hr) (pr_same 2 (sp_same 1) (.inr ⟨1, rfl, rfl⟩))
  have k__law_same_4 : ∀ base : Heap, C8.Cal P w K mg base 4 "_law_same" (upSp K (sp_same 3)) [] := fun base => calD F__law_same g__law_same b__law_same sc__law_same (len__law_same 3) (fun cdv A outer s H E hr => tm__law_same T (k__law_same_3 base) (by decide) hr) (pr_same 3 (sp_same 2) (.inr ⟨2, rfl, rfl⟩))
  have k__law_same := k__law_same_4
  obtain ⟨fd__law_flat, F0__law_flat⟩ := c.def_ 18 (d := d__law_flat) rfl
  have F__law_flat : FunD K "_law_flat" "_law_flat" (defArgs st__law_flat) (defBody st__law_flat) (defScope st__law_flat) [] [] (He.ga K "_law_flat") fd__law_flat := F0__law_flat
  clear F0__law_flat
  have g__law_flat := He.glo_ok X G (c.fact 18 (f := .glo "_law_flat") rfl)
  have b__law_flat : Binds K fd__law_flat ["row"] [] := FunD.bindsN F__law_flat fun _ _ _ _ _ _ us hl => match us, hl with | [_], _ => rfl
  have k__law_flat : ∀ base : Heap, C8.Cal P w K mg base 1 "_law_flat" (upSp K sp_flat) [] := fun base => calD F__law_flat g__law_flat b__law_flat sc__law_flat len__law_flat (fun cdv A outer s H E hr => tm__law_flat T  hr) pr_flat
  obtain ⟨fd__law_emptied, F0__law_emptied⟩ := c.def_ 19 (d := d__law_emptied) rfl
  have F__law_emptied : FunD K "_law_emptied" "_law_emptied" (defArgs st__law_emptied) (defBody st__law_emptied) (defScope st__law_emptied) [] [] (He.ga K "_law_emptied") fd__law_emptied := F0__law_emptied
  clear F0__law_emptied
  have g__law_emptied := He.glo_ok X G (c.fact 19 (f := .glo "_law_emptied") rfl)
  have b__law_emptied : Binds K fd__law_emptied ["row"] [] := FunD.bindsN F__law_emptied fun _ _ _ _ _ _ us hl => match us, hl with | [_], _ => rfl
  have k__law_emptied : ∀ base : Heap, C8.Cal P w K mg base 1 "_law_emptied" (upSp K sp_emptied) [] := fun base => calD F__law_emptied g__law_emptied b__law_emptied sc__law_emptied len__law_emptied (fun cdv A outer s H E hr => tm__law_emptied T  hr) pr_emptied
  obtain ⟨fd__law_one, F0__law_one⟩ := c.def_ 20 (d := d__law_one) rfl
  have F__law_one : FunD K "_law_one" "_law_one" (defArgs st__law_one) (defBody st__law_one) (defScope st__law_one) [] [] (He.ga K "_law_one") fd__law_one := F0__law_one
  clear F0__law_one
  have g__law_one := He.glo_ok X G (c.fact 20 (f := .glo "_law_one") rfl)
  have b__law_one : Binds K fd__law_one ["pool"] [] := FunD.bindsN F__law_one fun _ _ _ _ _ _ us hl => match us, hl with | [_], _ => rfl
  have k__law_one : ∀ base : Heap, C8.Cal P w K mg base 6 "_law_one" (upSp K sp_one) [] := fun base => calD F__law_one g__law_one b__law_one sc__law_one len__law_one (fun cdv A outer s H E hr => tm__law_one T (k__law_next base) (by decide) (k__law_roads base) (by decide) (k__law_rows base) (by decide) (k__law_flat base) (by decide) (k__law_as base) (by decide) (k_made_calendar base) (by decide) (k__law_same base) (by decide) (k__law_emptied base) (by decide) (k__law_wide base) (by decide) (k_net_calendar base) (by decide) hr) pr_one
  obtain ⟨fd_law, F0_law⟩ := c.def_ 21 (d := d_law) rfl
  have F_law : FunD K "law" "law" (defArgs st_law) (defBody st_law) (defScope st_law) [] [] (He.ga K "law") fd_law := F0_law
  clear F0_law
  have g_law := He.glo_ok X G (c.fact 21 (f := .glo "law") rfl)
  have e := hfa.symm.trans g_law
  cases e
  have b := FunD.bindsA (ps := ["script"]) F_law fun _ _ _ _ _ _ us hl => match us, hl with | [_], _ => rfl
  exact ⟨fd_law, fun s v => b s [v] rfl, fun base _ _ => okD F_law sc_law len_law (fun cdv A outer s H E hr => tm_law T (k__law_one base) (by decide) (k__law_pool base) (by decide) hr) pr_law⟩
end Lw
open PySem PySem.W PySem.Calls PyProof.Rows
theorem PySem.Challenge.cw_hourhaul_k57_calendars_made_holds : PySem.Challenge.rw_hourhaul_k57_calendars_made.Holds := by
  w_on; o_law
  refine HandSHeadRun.head_any (r := OpenLaw.row PySem.Challenge.rw_hourhaul_k57_calendars_made) (q := view (OpenLaw.row PySem.Challenge.rw_hourhaul_k57_calendars_made).prog [33]) (H := Lw.hk) (ob := Lw.ob) (M := 3000) (loose := Lw.loose) (d := HandSHeadRun.topDef (OpenLaw.row PySem.Challenge.rw_hourhaul_k57_calendars_made).prog 33) (kwd := []) Lw.ob_eq
    (by kernel_rfl) (fun s => by kernel_rfl) Lw.run (by kernel_rfl) (by kernel_rfl) (by kernel_rfl) (by rfl) (by first | assumption | decide +kernel) (by decide +kernel) ⟨rfl, rfl, rfl, rfl, rfl, by decide +kernel⟩ ?hw ?hc
  case hw => w_witness2
  case hc =>
    refine L2.walk_ofE (l := PySem.Challenge.rw_hourhaul_k57_calendars_made) (n := 63) (k := 7) (x := "script") (CX := L2.CX0) rfl (by decide) (by kernel_rfl) ⟨rfl, by decide, by decide⟩ ?F (fun _ _ _ _ z => z)
    intro w mg fa h Y G hmg0
    obtain ⟨K, KX, c⟩ := Y
    have hmg : mg ("law" : PySem.Str) = some (.ref fa) := by
      have e : (HandSHeadRun.topDef (OpenLaw.row PySem.Challenge.rw_hourhaul_k57_calendars_made).prog 33).name = ("law" : PySem.Str) := by kernel_rfl
      rw [← e]
      exact hmg0
    obtain ⟨fd, hb, hF⟩ := Lw.facts (P := (PySem.Challenge.rw_hourhaul_k57_calendars_made).prog) (w := w) KX G hmg c
    exact ⟨K, fd, DL.upSp K Lw.sp_law, KX, hb, fun H a ns hl _ hS => DL.script_up hS fun QD q => ⟨ns, rfl, hl, fun h' => q _ h' rfl⟩, hF⟩
#print axioms PySem.Challenge.cw_hourhaul_k57_calendars_made_holds

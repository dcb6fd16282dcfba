import PyProof.Rows.All
import Wide.All
import OpenK.AllK
import Wide.FinOn
import HandS.ForMost
import HandS.Evl
import HandS.Wide
import HandS.TupAny
import HandS.TupMul
import HandS.Style
import HandS.IsInst
import HandS.Small
import HandS.Star
import HandS.Conv
import HandS.Zip
import HandS.Walk
import HandS.SortInts
import HandS.Property
import KE.GoesEnum
import KE.GoesZip
import HandS.TryOnly
import HandS.Ends
import HandS.Codes
import PySem.Challenge.RW_palmsinturn_k83_whole_years_of_plants
set_option Elab.async false
set_option linter.all false
set_option maxRecDepth 100000
set_option maxHeartbeats 4000000
set_option autoImplicit false
/-! Dl: what defs do, told over data (D) and not over heaps. -/
namespace Dl
open PySem L2 Evl

/-- data: what a value stands for -/
inductive D where
  | non | bl (b : Bool) | int (i : Int) | str (x : Str)
  | tup (ds : List D) | lst (ds : List D)
  | scr (ns : List Int)
  | obj (C : Addr) (ns : List Str) (ds : List D)
  | dic (ks : List Key) (ds : List D)
  | ty (n : String) | adr (a : Addr)

variable {K : PySem.W.Frag}
mutual
def Rep (K : PySem.W.Frag) (H : Hp) : D → V → Prop
  | .non, v => v = .non
  | .bl b, v => v = .bl b
  | .int i, v => v = .int i
  | .str x, v => v = .str x
  | .tup ds, v => ∃ a vs, v = .ref a ∧ SqT K H a vs ∧ RepL K H ds vs
  | .lst ds, v => ∃ a vs, v = .ref a ∧ H a = some (.lst vs) ∧ RepL K H ds vs
  | .scr ns, v => ∃ a, v = .ref a ∧ SqL K H a (ns.map V.int)
  | .obj C ns ds, v => ∃ a dx vs, v = .ref a ∧ H a = some (.ins C dx (ns.zip vs)) ∧ ns.length = vs.length ∧ RepL K H ds vs
  | .dic ks ds, v => ∃ a vs, v = .ref a ∧ Rd H a (.dK (ks.zip vs)) ∧ ks.length = vs.length ∧ RepL K H ds vs
  | .ty n, v => v = .ty n
  | .adr a, v => v = .ref a
def RepL (K : PySem.W.Frag) (H : Hp) : List D → List V → Prop
  | [], vs => vs = []
  | d :: ds, vs => ∃ w ws, vs = w :: ws ∧ Rep K H d w ∧ RepL K H ds ws
end

mutual
theorem Rep.mono {H H' : Hp} (e : Ex H H') : ∀ (d : D) (v : V), Rep K H d v → Rep K H' d v
  | .non, _, h => h
  | .bl _, _, h => h
  | .int _, _, h => h
  | .str _, _, h => h
  | .ty _, _, h => h
  | .adr _, _, h => h
  | .scr ns, v, ⟨a, h1, h2⟩ => ⟨a, h1, ex_l e h2⟩
  | .tup ds, v, ⟨a, vs, h1, h2, h3⟩ => ⟨a, vs, h1, ex_t e h2, RepL.mono e ds vs h3⟩
  | .lst ds, v, ⟨a, vs, h1, h2, h3⟩ => ⟨a, vs, h1, e _ _ h2, RepL.mono e ds vs h3⟩
  | .obj C ns ds, v, ⟨a, dx, vs, h1, h2, h4, h3⟩ => ⟨a, dx, vs, h1, e _ _ h2, h4, RepL.mono e ds vs h3⟩
  | .dic ks ds, v, ⟨a, vs, h1, h2, h4, h3⟩ => ⟨a, vs, h1, ex_rd e h2, h4, RepL.mono e ds vs h3⟩
theorem RepL.mono {H H' : Hp} (e : Ex H H') : ∀ (ds : List D) (vs : List V), RepL K H ds vs → RepL K H' ds vs
  | [], _, h => h
  | d :: ds, vs, ⟨w, ws, h1, h2, h3⟩ => ⟨w, ws, h1, Rep.mono e d w h2, RepL.mono e ds ws h3⟩
end

theorem RepL.len {H : Hp} : ∀ {ds : List D} {vs : List V}, RepL K H ds vs → vs.length = ds.length
  | [], _, h => by rw [show _ = [] from h]; rfl
  | d :: ds, vs, ⟨w, ws, h1, _, h3⟩ => by rw [h1, List.length_cons, List.length_cons, RepL.len h3]
theorem RepL.get {H : Hp} : ∀ {ds : List D} {vs : List V} {i : Nat} {d : D}, RepL K H ds vs → ds[i]? = some d → ∃ v, vs[i]? = some v ∧ Rep K H d v
  | [], _, _, _, _, e => by simp at e
  | d :: ds, vs, 0, d', ⟨w, ws, h1, h2, _⟩, e => by
    have e' : d = d' := by simpa using e
    subst e'; rw [h1]; exact ⟨w, rfl, h2⟩
  | d :: ds, vs, i + 1, d', ⟨w, ws, h1, _, h3⟩, e => by
    rw [h1]
    simpa using RepL.get (i := i) h3 (by simpa using e)
theorem RepL.get' {H : Hp} {ds : List D} {vs : List V} {i : Nat} {v : V} (h : RepL K H ds vs) (e : vs[i]? = some v) : ∃ d, ds[i]? = some d ∧ Rep K H d v := by
  have hi : i < ds.length := by rw [← h.len]; exact (List.getElem?_eq_some_iff.mp e).1
  obtain ⟨w, hw, r⟩ := h.get (List.getElem?_eq_getElem hi)
  rw [e] at hw; cases hw
  exact ⟨_, List.getElem?_eq_getElem hi, r⟩
theorem RepL.append {H : Hp} : ∀ {ds es : List D} {vs ws : List V}, RepL K H ds vs → RepL K H es ws → RepL K H (ds ++ es) (vs ++ ws)
  | [], _, _, _, h, k => by rw [show _ = [] from h]; exact k
  | d :: ds, es, vs, ws, ⟨w, us, h1, h2, h3⟩, k => by rw [h1]; exact ⟨w, us ++ ws, rfl, h2, RepL.append h3 k⟩
theorem RepL.one {H : Hp} {d : D} {v : V} (h : Rep K H d v) : RepL K H [d] [v] := ⟨v, [], rfl, h, rfl⟩
theorem RepL.snoc {H : Hp} {ds : List D} {vs : List V} {d : D} {v : V} (h : RepL K H ds vs) (k : Rep K H d v) : RepL K H (ds ++ [d]) (vs ++ [v]) := h.append (.one k)
theorem RepL.set {H : Hp} : ∀ {ds : List D} {vs : List V} (i : Nat) {d : D} {v : V}, RepL K H ds vs → Rep K H d v → RepL K H (ds.set i d) (vs.set i v)
  | [], _, _, _, _, h, _ => by rw [show _ = [] from h]; rfl
  | d :: ds, vs, 0, d', v', ⟨w, ws, h1, h2, h3⟩, k => by rw [h1]; exact ⟨v', ws, rfl, k, h3⟩
  | d :: ds, vs, i + 1, d', v', ⟨w, ws, h1, h2, h3⟩, k => by rw [h1]; exact ⟨w, ws.set i v', rfl, h2, RepL.set i h3 k⟩
theorem RepL.drop {H : Hp} : ∀ {ds : List D} {vs : List V} (n : Nat), RepL K H ds vs → RepL K H (ds.drop n) (vs.drop n)
  | _, _, 0, h => h
  | [], _, n + 1, h => by rw [show _ = [] from h]; rfl
  | d :: ds, vs, n + 1, ⟨w, ws, h1, h2, h3⟩ => by rw [h1]; exact RepL.drop n h3
theorem RepL.take {H : Hp} : ∀ {ds : List D} {vs : List V} (n : Nat), RepL K H ds vs → RepL K H (ds.take n) (vs.take n)
  | _, _, 0, h => rfl
  | [], _, n + 1, h => by rw [show _ = [] from h]; rfl
  | d :: ds, vs, n + 1, ⟨w, ws, h1, h2, h3⟩ => by rw [h1]; exact ⟨w, ws.take n, rfl, h2, RepL.take n h3⟩
theorem RepL.ints {H : Hp} : ∀ {ns : List Int} {vs : List V}, RepL K H (ns.map D.int) vs → vs = ns.map V.int
  | [], _, h => h
  | n :: ns, vs, ⟨w, ws, h1, h2, h3⟩ => by
    rw [h1, show w = .int n from h2, RepL.ints h3]; rfl
theorem RepL.bls {H : Hp} : ∀ {ns : List Bool} {vs : List V}, RepL K H (ns.map D.bl) vs → vs = ns.map V.bl
  | [], _, h => h
  | n :: ns, vs, ⟨w, ws, h1, h2, h3⟩ => by
    rw [h1, show w = .bl n from h2, RepL.bls h3]; rfl
theorem RepL.strs {H : Hp} : ∀ {ns : List Str} {vs : List V}, RepL K H (ns.map D.str) vs → vs = ns.map V.str
  | [], _, h => h
  | n :: ns, vs, ⟨w, ws, h1, h2, h3⟩ => by
    rw [h1, show w = .str n from h2, RepL.strs h3]; rfl
theorem RepL.of_ints {H : Hp} : ∀ {ns : List Int}, RepL K H (ns.map D.int) (ns.map V.int)
  | [] => rfl
  | n :: ns => ⟨_, _, rfl, rfl, RepL.of_ints⟩
theorem RepL.of_strs {H : Hp} : ∀ {ns : List Str}, RepL K H (ns.map D.str) (ns.map V.str)
  | [] => rfl
  | n :: ns => ⟨_, _, rfl, rfl, RepL.of_strs⟩

/-! ### slots -/
/-- what an owned object holds -/
inductive OD where
  | lst (ds : List D) | dic (ks : List Key) (ds : List D)
/-- a slot: nothing known; a value; an object of one's own, at p -/
inductive Slot where
  | no | val (d : D) | own (p : Addr) (o : OD)
def OwnAt (K : PySem.W.Frag) (F H : Hp) (p : Addr) : OD → Prop
  | .lst ds => ∃ vs, H p = some (.lst vs) ∧ RepL K F ds vs
  | .dic ks ds => ∃ vs, H p = some (.dK (ks.zip vs)) ∧ ks.length = vs.length ∧ RepL K F ds vs
theorem OwnAt.mono {F F' H H' : Hp} {p : Addr} (e : Ex F F') (k : ∀ o, H p = some o → H' p = some o) : ∀ {o : OD}, OwnAt K F H p o → OwnAt K F' H' p o
  | .lst ds, ⟨vs, h1, h2⟩ => ⟨vs, k _ h1, h2.mono e⟩
  | .dic ks ds, ⟨vs, h1, h2, h3⟩ => ⟨vs, k _ h1, h2, h3.mono e⟩
theorem OwnAt.some {F H : Hp} {p : Addr} : ∀ {o : OD}, OwnAt K F H p o → ∃ u, H p = some u
  | .lst ds, ⟨vs, h1, _⟩ => ⟨_, h1⟩
  | .dic ks ds, ⟨vs, h1, _⟩ => ⟨_, h1⟩

/-- B: what stood at the entry (all but one's own); F: what never changes; H: all -/
structure RepS (K : PySem.W.Frag) (B F H : Hp) (σ : L2.St) (env : List Slot) : Prop where
  bh : Ex B H
  fh : Ex F H
  val : ∀ (i : Nat) (d : D), env[i]? = some (Slot.val d) → ∃ v, σ[i]? = some (some v) ∧ Rep K F d v
  own : ∀ (i : Nat) (p : Addr) (o : OD), env[i]? = some (Slot.own p o) → σ[i]? = some (some (V.ref p)) ∧ B p = none ∧ F p = none ∧ OwnAt K F H p o
  sep : ∀ (i j : Nat) (p : Addr) (o u : OD), env[i]? = some (Slot.own p o) → env[j]? = some (Slot.own p u) → i = j
  len : env.length ≤ σ.length

/-- a step that lays new things: F, H grow; what was not frozen stays so -/
structure Up (F H F' H' : Hp) : Prop where
  h : Ex H H'
  f : Ex F F'
  fh : Ex F' H'
  no : ∀ p, F p = none → H p ≠ none → F' p = none
structure Gr (B F F' : Hp) : Prop where
  f : Ex F F'
  no : ∀ p, F p = none → B p ≠ none → F' p = none
theorem Gr.refl {B F : Hp} : Gr B F F := ⟨.refl _, fun _ h _ => h⟩
theorem Gr.trans {B F F1 F2 : Hp} (a : Gr B F F1) (b : Gr B F1 F2) : Gr B F F2 := ⟨a.f.trans b.f, fun p h k => b.no p (a.no p h k) k⟩
theorem Up.refl {F H : Hp} (e : Ex F H) : Up F H F H := ⟨.refl _, .refl _, e, fun _ h _ => h⟩
theorem Up.trans {F H F1 H1 F2 H2 : Hp} (a : Up F H F1 H1) (b : Up F1 H1 F2 H2) : Up F H F2 H2 :=
  ⟨a.h.trans b.h, a.f.trans b.f, b.fh, fun p h k => b.no p (a.no p h k) fun z => k (by
    cases e : H p with
    | none => rfl
    | some o => rw [a.h p o e] at z; cases z)⟩
theorem Ex.upd2 {F H : Hp} {p : Addr} {o : HO} (e : Ex F H) : Ex (upd F p o) (upd H p o) := fun a u h => by
  by_cases hp : a = p
  · subst hp; rw [upd_same] at h ⊢; exact h
  · rw [upd_ne hp] at h ⊢; exact e a u h
/-- a new thing, frozen -/
theorem Up.new {F H : Hp} {p : Addr} {o : HO} (e : Ex F H) (h : H p = none) : Up F H (upd F p o) (upd H p o) :=
  ⟨Ex.new h, Ex.new (fresh_back e h), Ex.upd2 e, fun q h1 h2 => by rw [upd_ne (fun z => h2 (by rw [z]; exact h))]; exact h1⟩
/-- a new thing, not frozen -/
theorem Up.heap {F H : Hp} {p : Addr} {o : HO} (e : Ex F H) (h : H p = none) : Up F H F (upd H p o) :=
  ⟨Ex.new h, .refl _, e.trans (Ex.new h), fun _ h1 _ => h1⟩
theorem Gr.of_up {B F H F' H' : Hp} (b : Ex B H) (u : Up F H F' H') : Gr B F F' := ⟨u.f, fun p h k => u.no p h fun z => by
  cases e : B p with
  | none => exact k e
  | some o => rw [b p o e] at z; cases z⟩
section
variable {B F H F' H' : Hp} {σ : L2.St} {env : List Slot}
theorem RepS.up (r : RepS K B F H σ env) (u : Up F H F' H') : RepS K B F' H' σ env where
  bh := r.bh.trans u.h
  fh := u.fh
  val := fun i d e => let ⟨v, h1, h2⟩ := r.val i d e; ⟨v, h1, h2.mono u.f⟩
  own := fun i p o e => by
    obtain ⟨h1, h2, h3, h4⟩ := r.own i p o e
    obtain ⟨w, hw⟩ := h4.some
    exact ⟨h1, h2, u.no p h3 (by rw [hw]; simp), h4.mono u.f fun o q => u.h p o q⟩
  sep := r.sep
  len := r.len
theorem RepS.of_val (r : RepS K B F H σ env) {i : Nat} {d : D} (e : env[i]? = some (Slot.val d)) : ∃ v, σ[i]? = some (some v) ∧ Rep K F d v := r.val i d e
/-- a slot takes a value -/
theorem RepS.set (r : RepS K B F H σ env) {i : Nat} {d : D} {v : V} (h : Rep K F d v) : RepS K B F H (σ.set i (some v)) (env.set i (.val d)) where
  bh := r.bh
  fh := r.fh
  val := fun j d' e => by
    by_cases hj : i = j
    · subst hj
      have hl : i < env.length := by
        rcases Nat.lt_or_ge i env.length with z | z
        · exact z
        · rw [List.getElem?_eq_none (by simpa using z)] at e; cases e
      rw [List.getElem?_set_self hl] at e
      cases e
      exact ⟨v, List.getElem?_set_self (Nat.lt_of_lt_of_le hl r.len), h⟩
    · rw [List.getElem?_set_ne hj] at e ⊢; exact r.val j d' e
  own := fun j p o e => by
    by_cases hj : i = j
    · subst hj
      have hl : i < env.length := by
        rcases Nat.lt_or_ge i env.length with z | z
        · exact z
        · rw [List.getElem?_eq_none (by simpa using z)] at e; cases e
      rw [List.getElem?_set_self hl] at e; cases e
    · rw [List.getElem?_set_ne hj] at e ⊢; exact r.own j p o e
  sep := fun j k p o u e1 e2 => by
    have ne : ∀ {j : Nat} {p : Addr} {o : OD}, (env.set i (.val d))[j]? = some (Slot.own p o) → env[j]? = some (Slot.own p o) := fun {j p o} e => by
      by_cases hj : i = j
      · subst hj
        have hl : i < env.length := by
          rcases Nat.lt_or_ge i env.length with z | z
          · exact z
          · rw [List.getElem?_eq_none (by simpa using z)] at e; cases e
        rw [List.getElem?_set_self hl] at e; cases e
      · rwa [List.getElem?_set_ne hj] at e
    exact r.sep j k p o u (ne e1) (ne e2)
  len := by simpa using r.len
/-- forgetting -/
theorem RepS.weak (r : RepS K B F H σ env) {env' : List Slot} (hl : env'.length ≤ env.length) (h : ∀ (i : Nat) (s : Slot), env'[i]? = some s → s = .no ∨ env[i]? = some s) : RepS K B F H σ env' where
  bh := r.bh
  fh := r.fh
  val := fun i d e => by
    rcases h i _ e with z | z
    · cases z
    · exact r.val i d z
  own := fun i p o e => by
    rcases h i _ e with z | z
    · cases z
    · exact r.own i p o z
  sep := fun i j p o u e1 e2 => by
    rcases h i _ e1 with z | z
    · cases z
    · rcases h j _ e2 with y | y
      · cases y
      · exact r.sep i j p o u z y
  len := Nat.le_trans hl r.len
end

/-! ### what evaluates to what -/
/-- te gives a value that stands for d; env: the slots ahead, env': behind -/
def Ev (K : PySem.W.Frag) (te : TE) (env : List Slot) (d : D) (env' : List Slot) : Prop :=
  ∀ B F H σ, RepS K B F H σ env → ∀ Q : VK, (∀ v F' H', RepS K B F' H' σ env' → Gr B F F' → Rep K F' d v → Q v H') → te σ H Q
def EvT (K : PySem.W.Frag) (tt : TT) (env : List Slot) (b : Bool) (env' : List Slot) : Prop :=
  ∀ B F H σ, RepS K B F H σ env → ∀ Q : Bool → Hp → Prop, (∀ F' H', RepS K B F' H' σ env' → Gr B F F' → Q b H') → tt σ H Q
def EvA (K : PySem.W.Frag) (ta : TA) (env : List Slot) (ds : List D) (env' : List Slot) : Prop :=
  ∀ B F H σ, RepS K B F H σ env → ∀ Q : List V → Hp → Prop, (∀ vs F' H', RepS K B F' H' σ env' → Gr B F F' → RepL K F' ds vs → Q vs H') → ta σ H Q
/-- a new list, not frozen -/
def EvN (K : PySem.W.Frag) (te : TE) (env : List Slot) (ds : List D) (env' : List Slot) : Prop :=
  ∀ B F H σ, RepS K B F H σ env → ∀ Q : VK, (∀ p vs F' H', RepS K B F' H' σ env' → Gr B F F' → B p = none → F' p = none → (∀ (j : Nat) (o : OD), env'[j]? ≠ some (Slot.own p o)) → H' p = some (.lst vs) → RepL K F' ds vs → Q (.ref p) H') → te σ H Q
/-- rules by values, over data -/
def R2D (K : PySem.W.Frag) (r : R2) (a b c : D) : Prop := ∀ F H x y, Ex F H → Rep K F a x → Rep K F b y → ∀ Q : VK, (∀ z F' H', Up F H F' H' → Rep K F' c z → Q z H') → r x y H Q
def R1D (K : PySem.W.Frag) (r : V → Hp → VK → Prop) (a c : D) : Prop := ∀ F H x, Ex F H → Rep K F a x → ∀ Q : VK, (∀ z F' H', Up F H F' H' → Rep K F' c z → Q z H') → r x H Q
def RAD (K : PySem.W.Frag) (r : List V → Hp → VK → Prop) (as : List D) (c : D) : Prop := ∀ F H vs, Ex F H → RepL K F as vs → ∀ Q : VK, (∀ z F' H', Up F H F' H' → Rep K F' c z → Q z H') → r vs H Q

section
variable {env env1 env2 env3 : List Slot} {ta tb te : TE} {t u : TT} {a b c d : D}
theorem ev_var {i : Nat} (h : env[i]? = some (Slot.val d)) : Ev K (tVar i) env d env := fun B F H σ r Q q =>
  let ⟨v, h1, h2⟩ := r.val i d h; ⟨v, h1, q v F H r .refl h2⟩
theorem ev_int {i : Int} : Ev K (tC (.int i)) env (.int i) env := fun B F H σ r Q q => q _ F H r .refl rfl
theorem ev_bl {i : Bool} : Ev K (tC (.bl i)) env (.bl i) env := fun B F H σ r Q q => q _ F H r .refl rfl
theorem ev_non : Ev K (tC .non) env .non env := fun B F H σ r Q q => q _ F H r .refl rfl
theorem ev_str {i : Str} : Ev K (tC (.str i)) env (.str i) env := fun B F H σ r Q q => q _ F H r .refl rfl
theorem ev_adr {i : Addr} : Ev K (tC (.ref i)) env (.adr i) env := fun B F H σ r Q q => q _ F H r .refl rfl
theorem ev_ty {i : String} : Ev K (tC (.ty i)) env (.ty i) env := fun B F H σ r Q q => q _ F H r .refl rfl
/-- a constant of the module, of the written part -/
theorem ev_ktup {i : Addr} {vs : List V} {ds : List D} (h : ∀ H, SqT K H i vs) (hr : ∀ H, RepL K H ds vs) : Ev K (tC (.ref i)) env (.tup ds) env := fun B F H σ r Q q => q _ F H r .refl ⟨i, vs, rfl, h F, hr F⟩
theorem ev_op {r : R2} (ha : Ev K ta env a env1) (hb : Ev K tb env1 b env2) (hr : R2D K r a b c) : Ev K (tOp r ta tb) env c env2 := fun B F H σ s Q q =>
  ha B F H σ s _ fun x F1 H1 s1 g1 r1 => hb B F1 H1 σ s1 _ fun y F2 H2 s2 g2 r2 => hr F2 H2 x y s2.fh (r1.mono g2.f) r2 Q fun z F3 H3 u3 r3 =>
    q z F3 H3 (s2.up u3) ((g1.trans g2).trans (.of_up s2.bh u3)) r3
theorem ev_un {r : V → Hp → VK → Prop} (ha : Ev K ta env a env1) (hr : R1D K r a c) : Ev K (tUn r ta) env c env1 := fun B F H σ s Q q =>
  ha B F H σ s _ fun x F1 H1 s1 g1 r1 => hr F1 H1 x s1.fh r1 Q fun z F3 H3 u3 r3 => q z F3 H3 (s1.up u3) (g1.trans (.of_up s1.bh u3)) r3
theorem ea_nil : EvA K tNil env [] env := fun B F H σ s Q q => q [] F H s .refl rfl
theorem ea_cons {tr : TA} {ds : List D} (ha : Ev K ta env a env1) (hr : EvA K tr env1 ds env2) : EvA K (tCons ta tr) env (a :: ds) env2 := fun B F H σ s Q q =>
  ha B F H σ s _ fun x F1 H1 s1 g1 r1 => hr B F1 H1 σ s1 _ fun vs F2 H2 s2 g2 r2 => q (x :: vs) F2 H2 s2 (g1.trans g2) ⟨x, vs, rfl, r1.mono g2.f, r2⟩
theorem ev_cb {r : List V → Hp → VK → Prop} {ta : TA} {ds : List D} (ha : EvA K ta env ds env1) (hr : RAD K r ds c) : Ev K (tCB r ta) env c env1 := fun B F H σ s Q q =>
  ha B F H σ s _ fun vs F1 H1 s1 g1 r1 => hr F1 H1 vs s1.fh r1 Q fun z F3 H3 u3 r3 => q z F3 H3 (s1.up u3) (g1.trans (.of_up s1.bh u3)) r3
theorem ev_tup {ta : TA} {ds : List D} (ha : EvA K ta env ds env1) (hl : ds.length ≤ 100000) : Ev K (tTup ta) env (.tup ds) env1 := fun B F H σ s Q q =>
  ha B F H σ s _ fun vs F1 H1 s1 g1 r1 => ⟨sz_of (by rw [r1.len]; exact hl), fun p hp => by
    have u := Up.new (o := .tup vs) s1.fh hp
    exact q _ _ _ (s1.up u) (g1.trans (.of_up s1.bh u)) ⟨p, vs, rfl, st_of upd_same, r1.mono u.f⟩⟩
theorem en_lst {ta : TA} {ds : List D} (ha : EvA K ta env ds env1) (hl : ds.length ≤ 100000) : EvN K (tLst ta) env ds env1 := fun B F H σ s Q q =>
  ha B F H σ s _ fun vs F1 H1 s1 g1 r1 => ⟨sz_of (by rw [r1.len]; exact hl), fun p hp => by
    have u := Up.heap (o := .lst vs) s1.fh hp
    refine q p vs F1 _ (s1.up u) g1 (fresh_back s1.bh hp) (fresh_back s1.fh hp) (fun j o e => ?_) upd_same r1
    obtain ⟨w, hw⟩ := (s1.own j p o e).2.2.2.some
    rw [hp] at hw; cases hw⟩
/-- a new list is frozen -/
theorem ev_fz {ds : List D} (h : EvN K te env ds env1) : Ev K te env (.lst ds) env1 := fun B F H σ s Q q =>
  h B F H σ s Q fun p vs F1 H1 s1 g1 hB hF hn hp hr => by
    have e1 : Ex F1 (upd F1 p (.lst vs)) := Ex.new hF
    have n1 : ∀ q, q ≠ p → F1 q = none → upd F1 p (.lst vs) q = none := fun q hq h => by rw [upd_ne hq]; exact h
    refine q (.ref p) (upd F1 p (.lst vs)) H1 ⟨s1.bh, fun a o e => ?_, fun i d e => let ⟨v, h1, h2⟩ := s1.val i d e; ⟨v, h1, h2.mono e1⟩, fun i a o e => ?_, s1.sep, s1.len⟩ (g1.trans ⟨e1, fun a h k => n1 a (fun z => k (z ▸ hB)) h⟩) ⟨p, vs, rfl, upd_same, hr.mono e1⟩
    · by_cases ha : a = p
      · subst ha; rw [upd_same] at e; cases e; exact hp
      · rw [upd_ne ha] at e; exact s1.fh a o e
    · obtain ⟨h1, h2, h3, h4⟩ := s1.own i a o e
      exact ⟨h1, h2, n1 a (fun z => hn i o (z ▸ e)) h3, h4.mono e1 fun _ q => q⟩
theorem ev_lst {ta : TA} {ds : List D} (ha : EvA K ta env ds env1) (hl : ds.length ≤ 100000) : Ev K (tLst ta) env (.lst ds) env1 := ev_fz (en_lst ha hl)

theorem et_test {x : Bool} (h : Ev K te env (.bl x) env1) : EvT K (tTest te) env x env1 := fun B F H σ s Q q => h B F H σ s _ fun v F1 H1 s1 g1 r1 => ⟨x, r1, q F1 H1 s1 g1⟩
theorem et_B {x : Bool} (h : Ev K te env (.bl x) env1) : EvT K (tB te) env x env1 := fun B F H σ s Q q => h B F H σ s _ fun v F1 H1 s1 g1 r1 => ⟨x, r1, q F1 H1 s1 g1⟩
theorem et_not {x : Bool} (h : EvT K t env x env1) : EvT K (tNot t) env (!x) env1 := fun B F H σ s Q q => h B F H σ s _ fun F1 H1 s1 g1 => q F1 H1 s1 g1
theorem et_and {x y : Bool} (h1 : EvT K t env x env1) (h2 : x = true → EvT K u env1 y env1) : EvT K (tAnd t u) env (x && y) env1 := fun B F H σ s Q q => h1 B F H σ s _ fun F1 H1 s1 g1 => by
  cases x with
  | true => exact h2 rfl B F1 H1 σ s1 _ fun F2 H2 s2 g2 => q F2 H2 s2 (g1.trans g2)
  | false => exact q F1 H1 s1 g1
theorem et_or {x y : Bool} (h1 : EvT K t env x env1) (h2 : x = false → EvT K u env1 y env1) : EvT K (tOr t u) env (x || y) env1 := fun B F H σ s Q q => h1 B F H σ s _ fun F1 H1 s1 g1 => by
  cases x with
  | false => exact h2 rfl B F1 H1 σ s1 _ fun F2 H2 s2 g2 => q F2 H2 s2 (g1.trans g2)
  | true => exact q F1 H1 s1 g1
theorem ev_andV {x y : Bool} (h1 : Ev K ta env (.bl x) env1) (h2 : x = true → Ev K tb env1 (.bl y) env1) : Ev K (tAndV ta tb) env (.bl (x && y)) env1 := fun B F H σ s Q q => h1 B F H σ s _ fun v F1 H1 s1 g1 r1 => ⟨x, r1, by
  cases x with
  | true => exact h2 rfl B F1 H1 σ s1 _ fun v F2 H2 s2 g2 r2 => q v F2 H2 s2 (g1.trans g2) r2
  | false => exact q _ F1 H1 s1 g1 rfl⟩
theorem ev_orV {x y : Bool} (h1 : Ev K ta env (.bl x) env1) (h2 : x = false → Ev K tb env1 (.bl y) env1) : Ev K (tOrV ta tb) env (.bl (x || y)) env1 := fun B F H σ s Q q => h1 B F H σ s _ fun v F1 H1 s1 g1 r1 => ⟨x, r1, by
  cases x with
  | false => exact h2 rfl B F1 H1 σ s1 _ fun v F2 H2 s2 g2 r2 => q v F2 H2 s2 (g1.trans g2) r2
  | true => exact q _ F1 H1 s1 g1 rfl⟩
theorem ev_notV {x : Bool} (h1 : Ev K ta env (.bl x) env1) : Ev K (tNotV ta) env (.bl (!x)) env1 := fun B F H σ s Q q => h1 B F H σ s _ fun v F1 H1 s1 g1 r1 => ⟨x, r1, q _ F1 H1 s1 g1 rfl⟩
theorem ev_if {x : Bool} (h : EvT K t env x env1) (h1 : x = true → Ev K ta env1 d env2) (h2 : x = false → Ev K tb env1 d env2) : Ev K (tIf t ta tb) env d env2 := fun B F H σ s Q q => h B F H σ s _ fun F1 H1 s1 g1 => by
  cases x with
  | true => exact h1 rfl B F1 H1 σ s1 _ fun v F2 H2 s2 g2 r2 => q v F2 H2 s2 (g1.trans g2) r2
  | false => exact h2 rfl B F1 H1 σ s1 _ fun v F2 H2 s2 g2 r2 => q v F2 H2 s2 (g1.trans g2) r2
theorem ev_is (h : Ev K te env d env1) (e : d = c) : Ev K te env c env1 := e ▸ h
theorem et_is {x y : Bool} (h : EvT K t env x env1) (e : x = y) : EvT K t env y env1 := e ▸ h
end
end Dl

set_option Elab.async false
set_option linter.all false
set_option maxRecDepth 100000
set_option maxHeartbeats 4000000
set_option autoImplicit false
/-! Dl2: statements, loops, comprehensions, calls, defs. -/
namespace Dl
open PySem L2 Evl
variable {K : PySem.W.Frag}

structure Post where
  n : List Slot → Prop
  r : D → List Slot → Prop
  b : List Slot → Prop := fun _ => False
  c : List Slot → Prop := fun _ => False
structure Fin (K : PySem.W.Frag) (B F : Hp) (P : Post) (E : Ends) : Prop where
  n : ∀ σ' F' H' env', RepS K B F' H' σ' env' → Gr B F F' → P.n env' → E.nx σ' H'
  r : ∀ v σ' F' H' env' d, RepS K B F' H' σ' env' → Gr B F F' → Rep K F' d v → P.r d env' → E.rt v H'
  b : ∀ σ' F' H' env', RepS K B F' H' σ' env' → Gr B F F' → P.b env' → E.bk σ' H'
  c : ∀ σ' F' H' env', RepS K B F' H' σ' env' → Gr B F F' → P.c env' → E.ct σ' H'
theorem Fin.up {B F F1 : Hp} {P : Post} {E : Ends} (f : Fin K B F P E) (g : Gr B F F1) : Fin K B F1 P E :=
  ⟨fun σ' F' H' e r h => f.n σ' F' H' e r (g.trans h), fun v σ' F' H' e d r h => f.r v σ' F' H' e d r (g.trans h), fun σ' F' H' e r h => f.b σ' F' H' e r (g.trans h), fun σ' F' H' e r h => f.c σ' F' H' e r (g.trans h)⟩
def St (K : PySem.W.Frag) (ts : TS) (env : List Slot) (P : Post) : Prop := ∀ B F H σ E, RepS K B F H σ env → Fin K B F P E → ts E σ H

section
variable {env env1 env2 : List Slot} {P : Post} {t u w z : TS} {te ta tb : TE} {tt : TT} {d : D}
abbrev Post.th (P : Post) (z : TS) (K : PySem.W.Frag) : Post := { P with n := fun e => St K z e P }
theorem q (h : St K t env (P.th u K)) : St K (tSeq t u) env P := fun B F H σ E r f =>
  h B F H σ { E with nx := u E } r ⟨fun σ' F' H' e r' g hn => hn B F' H' σ' E r' (f.up g), f.r, f.b, f.c⟩
theorem st_mono {P' : Post} (h : St K t env P') (hn : ∀ e, P'.n e → P.n e) (hr : ∀ d e, P'.r d e → P.r d e) (hb : ∀ e, P'.b e → P.b e) (hc : ∀ e, P'.c e → P.c e) : St K t env P := fun B F H σ E r f =>
  h B F H σ E r ⟨fun σ' F' H' e r' g p => f.n σ' F' H' e r' g (hn e p), fun v σ' F' H' e d r' g rr p => f.r v σ' F' H' e d r' g rr (hr d e p), fun σ' F' H' e r' g p => f.b σ' F' H' e r' g (hb e p), fun σ' F' H' e r' g p => f.c σ' F' H' e r' g (hc e p)⟩
theorem st_next (h : P.n env) : St K tNext env P := fun B F H σ E r f => f.n σ F H env r .refl h
theorem st_brk (h : P.b env) : St K tBreak env P := fun B F H σ E r f => f.b σ F H env r .refl h
theorem st_cont (h : P.c env) : St K tCont env P := fun B F H σ E r f => f.c σ F H env r .refl h
theorem st_asg {i : Nat} (h : Ev K te env d env1) (k : P.n (env1.set i (.val d))) : St K (tAsg te (gName i)) env P := fun B F H σ E r f =>
  h B F H σ r _ fun v F1 H1 r1 g1 rv => f.n _ F1 H1 _ (r1.set rv) g1 k
theorem q_asg {i : Nat} (h : Ev K te env d env1) (k : St K z (env1.set i (.val d)) P) : St K (tSeq (tAsg te (gName i)) z) env P := q (st_asg h k)
theorem st_ret (h : Ev K te env d env1) (k : P.r d env1) : St K (tRet te) env P := fun B F H σ E r f =>
  h B F H σ r _ fun v F1 H1 r1 g1 rv => f.r v σ F1 H1 env1 d r1 g1 rv k
theorem st_retN (k : P.r .non env) : St K tRetN env P := fun B F H σ E r f => f.r _ σ F H env .non r .refl rfl k
theorem st_if {x : Bool} (h : EvT K tt env x env1) (h1 : x = true → St K u env1 P) (h2 : x = false → St K w env1 P) : St K (tIfS tt u w) env P := fun B F H σ E r f =>
  h B F H σ r _ fun F1 H1 r1 g1 => by
    cases x with
    | true => exact h1 rfl B F1 H1 σ E r1 (f.up g1)
    | false => exact h2 rfl B F1 H1 σ E r1 (f.up g1)
theorem q_if {x : Bool} (h : EvT K tt env x env1) (h1 : x = true → St K u env1 (P.th z K)) (h2 : x = false → St K w env1 (P.th z K)) : St K (tSeq (tIfS tt u w) z) env P := q (st_if h h1 h2)
theorem q_when {x : Bool} (h : EvT K tt env x env1) (h1 : x = true → St K u env1 (P.th z K)) (h2 : x = false → St K z env1 P) : St K (tSeq (tIfS tt u tNext) z) env P := q (st_if h h1 fun e => st_next (h2 e))
theorem st_drop (h : Ev K te env d env1) (k : P.n env1) : St K (tDrop te) env P := fun B F H σ E r f =>
  h B F H σ r _ fun v F1 H1 r1 g1 rv => f.n σ F1 H1 env1 r1 g1 k
theorem q_drop (h : Ev K te env d env1) (k : St K z env1 P) : St K (tSeq (tDrop te) z) env P := q (st_drop h k)
/-- a new list is one's own -/
theorem RepS.take {B F H : Hp} {σ : L2.St} (r : RepS K B F H σ env) {i : Nat} {p : Addr} {o : OD} (hB : B p = none) (hF : F p = none) (hn : ∀ (j : Nat) (o : OD), env[j]? ≠ some (.own p o)) (h : OwnAt K F H p o) :
    RepS K B F H (σ.set i (some (.ref p))) (env.set i (.own p o)) := by
  have lt : ∀ {s : Slot}, (env.set i s)[i]? ≠ none → i < env.length := fun {s} h => by
    rcases Nat.lt_or_ge i env.length with z | z
    · exact z
    · exact absurd (List.getElem?_eq_none (by simpa using z)) h
  have old : ∀ {j : Nat} {q : Addr} {u : OD}, (env.set i (.own p o))[j]? = some (Slot.own q u) → (j = i ∧ q = p ∧ u = o) ∨ (i ≠ j ∧ env[j]? = some (Slot.own q u)) := fun {j q u} e => by
    by_cases hj : i = j
    · subst hj
      have hl := lt (by rw [e]; simp)
      rw [List.getElem?_set_self hl] at e
      injection e with e
      injection e with e1 e2
      exact .inl ⟨rfl, e1.symm, e2.symm⟩
    · rw [List.getElem?_set_ne hj] at e
      exact .inr ⟨hj, e⟩
  refine ⟨r.bh, r.fh, fun j d' e => ?_, fun j q u e => ?_, fun j k q u u' e1 e2 => ?_, by simpa using r.len⟩
  · by_cases hj : i = j
    · subst hj
      have hl := lt (by rw [e]; simp)
      rw [List.getElem?_set_self hl] at e; cases e
    · rw [List.getElem?_set_ne hj] at e ⊢; exact r.val j d' e
  · rcases old e with ⟨rfl, rfl, rfl⟩ | ⟨hj, e'⟩
    · have hl := lt (by rw [e]; simp)
      exact ⟨List.getElem?_set_self (Nat.lt_of_lt_of_le hl r.len), hB, hF, h⟩
    · rw [List.getElem?_set_ne hj]
      exact r.own j q u e'
  · rcases old e1 with ⟨rfl, rfl, rfl⟩ | ⟨hj, e1'⟩
    · rcases old e2 with ⟨rfl, _, _⟩ | ⟨hk, e2'⟩
      · rfl
      · exact absurd e2' (hn k u')
    · rcases old e2 with ⟨rfl, rfl, rfl⟩ | ⟨hk, e2'⟩
      · exact absurd e1' (hn j u)
      · exact r.sep j k q u u' e1' e2'
theorem st_asgN {i : Nat} {ds : List D} (h : EvN K te env ds env1) (k : ∀ p, P.n (env1.set i (.own p (.lst ds)))) : St K (tAsg te (gName i)) env P := fun B F H σ E r f =>
  h B F H σ r _ fun p vs F1 H1 r1 g1 hB hF hn hp hr => f.n _ F1 H1 _ (r1.take (o := .lst ds) hB hF hn ⟨vs, hp, hr⟩) g1 (k p)
theorem q_asgN {i : Nat} {ds : List D} (h : EvN K te env ds env1) (k : ∀ p, St K z (env1.set i (.own p (.lst ds))) P) : St K (tSeq (tAsg te (gName i)) z) env P := q (st_asgN h k)
/-- what one owns is changed -/
theorem RepS.put {B F H : Hp} {σ : L2.St} (r : RepS K B F H σ env) {i : Nat} {p : Addr} {o o' : OD} {u : HO} (e : env[i]? = some (.own p o)) (h : OwnAt K F (upd H p u) p o') : RepS K B F (upd H p u) σ (env.set i (.own p o')) := by
  obtain ⟨e1, e2, e3, e4⟩ := r.own i p o e
  have hl : i < env.length := (List.getElem?_eq_some_iff.mp e).1
  have old : ∀ {j : Nat} {q : Addr} {u : OD}, (env.set i (.own p o'))[j]? = some (Slot.own q u) → (j = i ∧ q = p ∧ u = o') ∨ (i ≠ j ∧ env[j]? = some (Slot.own q u)) := fun {j q u} e => by
    by_cases hj : i = j
    · subst hj
      rw [List.getElem?_set_self hl] at e
      injection e with e
      injection e with e1 e2
      exact .inl ⟨rfl, e1.symm, e2.symm⟩
    · rw [List.getElem?_set_ne hj] at e
      exact .inr ⟨hj, e⟩
  refine ⟨r.bh.mut e2, r.fh.mut e3, fun j d' q => ?_, fun j a v q => ?_, fun j k a v v' q1 q2 => ?_, by simpa using r.len⟩
  · by_cases hj : i = j
    · subst hj
      rw [List.getElem?_set_self hl] at q; cases q
    · rw [List.getElem?_set_ne hj] at q; exact r.val j d' q
  · rcases old q with ⟨rfl, rfl, rfl⟩ | ⟨hj, q'⟩
    · exact ⟨e1, e2, e3, h⟩
    · obtain ⟨f1, f2, f3, f4⟩ := r.own j a v q'
      have ne : a ≠ p := fun z => hj (r.sep i j p o v e (z ▸ q'))
      exact ⟨f1, f2, f3, f4.mono (.refl _) fun o ho => by rw [upd_ne ne]; exact ho⟩
  · rcases old q1 with ⟨rfl, rfl, rfl⟩ | ⟨hj, q1'⟩
    · rcases old q2 with ⟨rfl, _, _⟩ | ⟨hk, q2'⟩
      · rfl
      · exact r.sep _ _ _ _ _ e q2'
    · rcases old q2 with ⟨rfl, rfl, rfl⟩ | ⟨hk, q2'⟩
      · exact r.sep _ _ _ _ _ q1' e
      · exact r.sep j k a v v' q1' q2'
/-- one's own list, read as a value from now on: it is frozen -/
theorem ev_give {i : Nat} {p : Addr} {ds : List D} (h : env[i]? = some (.own p (.lst ds))) : Ev K (tVar i) env (.lst ds) (env.set i .no) := fun B F H σ r Q q => by
  obtain ⟨e1, e2, e3, vs, e4, e5⟩ := r.own i p _ h
  have hl : i < env.length := (List.getElem?_eq_some_iff.mp h).1
  have ex1 : Ex F (upd F p (.lst vs)) := Ex.new e3
  have r1 : RepS K B F H σ (env.set i .no) := r.weak (by simp) fun j s hs => by
    by_cases hj : i = j
    · subst hj; rw [List.getElem?_set_self hl] at hs; cases hs; exact .inl rfl
    · rw [List.getElem?_set_ne hj] at hs; exact .inr hs
  refine ⟨.ref p, e1, q (.ref p) (upd F p (.lst vs)) H ⟨r.bh, fun a o e => ?_, fun j d e => let ⟨v, h1, h2⟩ := r1.val j d e; ⟨v, h1, h2.mono ex1⟩, fun j a o e => ?_, r1.sep, r1.len⟩ ⟨ex1, fun a z k => by rw [upd_ne (fun y => k (by rw [y]; exact e2))]; exact z⟩ ⟨p, vs, rfl, upd_same, e5.mono ex1⟩⟩
  · by_cases ha : a = p
    · subst ha; rw [upd_same] at e; cases e; exact e4
    · rw [upd_ne ha] at e; exact r.fh a o e
  · obtain ⟨h1, h2, h3, h4⟩ := r1.own j a o e
    have ne : a ≠ p := fun y => by
      have hj : i ≠ j := fun z => by subst z; rw [List.getElem?_set_self hl] at e; cases e
      rw [List.getElem?_set_ne hj] at e
      exact hj (r.sep i j p _ o h (y ▸ e))
    exact ⟨h1, h2, by rw [upd_ne ne]; exact h3, h4.mono ex1 fun _ q => q⟩
/-- xs.append(e), xs one's own -/
theorem st_app {i : Nat} {p : Addr} {ds : List D} (h : Ev K te env d env1) (hi : env[i]? = some (.own p (.lst ds))) (hi1 : env1[i]? = some (.own p (.lst ds))) (hz : ds.length < 100000) (k : P.n (env1.set i (.own p (.lst (ds ++ [d]))))) :
    St K (tDrop (tBM K "list" rAppend (tVar i) (tCons te tNil))) env P := fun B F H σ E r f => by
  obtain ⟨e1, e2, e3, vs0, e4, e5⟩ := r.own i p _ hi
  refine ⟨.ref p, e1, Or.inl ⟨rfl, vs0, sq_of e4⟩, h B F H σ r _ fun v F1 H1 r1 g1 rv => ?_⟩
  obtain ⟨f1, f2, f3, vs, f4, f5⟩ := r1.own i p _ hi1
  exact ⟨p, vs, v, rfl, rfl, f4, sz_lt (by rw [f5.len]; exact hz), f.n σ F1 _ _ (r1.put (o' := .lst (ds ++ [d])) hi1 ⟨vs ++ [v], upd_same, f5.snoc rv⟩) g1 k⟩
/-- xs[k] = e, xs one's own -/
theorem st_setL {i j : Nat} {p : Addr} {ds : List D} (h : Ev K te env d env1) (hb : Ev K tb env1 (.int (j : Int)) env2) (hi1 : env1[i]? = some (.own p (.lst ds))) (hi : env2[i]? = some (.own p (.lst ds))) (hj : j < ds.length) (k : P.n (env2.set i (.own p (.lst (ds.set j d))))) :
    St K (tAsg te (gSub (tVar i) tb rSetL)) env P := fun B F H σ E r f =>
  h B F H σ r _ fun v F1 H1 r1 g1 rv => ⟨.ref p, (r1.own i p _ hi1).1, hb B F1 H1 σ r1 _ fun w F2 H2 r2 g2 rw2 => by
    obtain ⟨f1, f2, f3, vs, f4, f5⟩ := r2.own i p _ hi
    have hw : w = .int (j : Int) := rw2
    subst hw
    exact ⟨p, vs, _, j, rfl, rfl, f4, ixN_nat (by rw [f5.len]; exact hj), f.n σ F2 _ _ (r2.put (o' := .lst (ds.set j d)) hi ⟨vs.set j v, upd_same, f5.set j (rv.mono g2.f)⟩) (g1.trans g2) k⟩⟩
/-- xs[k], xs one's own -/
theorem ev_ixO {i j : Nat} {p : Addr} {ds : List D} {r : R2} (hr : ∀ (F H : Hp) (j : Nat) (d : D), OwnAt K F H p (.lst ds) → ds[j]? = some d → ∀ Q : VK, (∀ z, Rep K F d z → Q z H) → r (.ref p) (.int ((j : Nat) : Int)) H Q)
    (hi0 : env[i]? = some (.own p (.lst ds))) (hb : Ev K tb env (.int (j : Int)) env1) (hi : env1[i]? = some (.own p (.lst ds))) (hd : ds[j]? = some d) : Ev K (tOp r (tVar i) tb) env d env1 := fun B F H σ s Q q =>
  ⟨.ref p, (s.own i p _ hi0).1, hb B F H σ s _ fun w F1 H1 s1 g1 r1 => by
    have hw : w = .int (j : Int) := r1
    subst hw
    exact hr F1 H1 j d (s1.own i p _ hi).2.2.2 hd Q fun z rz => q z F1 H1 s1 g1 rz⟩
end

/-! ### what a loop walks -/
def WalkD (K : PySem.W.Frag) (J : L2.It) (Wp : List Slot → Prop) (F0 : Hp) (ds : List D) : Prop := ∀ B F H σ e, RepS K B F H σ e → Wp e → Ex F0 F →
  (∀ i, i < ds.length → J.go i H) ∧ J.stop ds.length H ∧ ∀ i d x H', ds[i]? = some d → J.yld i H x H' → ∃ F', Up F H F' H' ∧ Rep K F' d x
def It (K : PySem.W.Frag) (wi : TI) (env : List Slot) (ds : List D) (env1 : List Slot) (Wp : List Slot → Prop) : Prop := ∀ B F H σ, RepS K B F H σ env → ∀ R : L2.It → Hp → Prop,
  (∀ J F' H', RepS K B F' H' σ env1 → Gr B F F' → WalkD K J Wp F' ds → R J H') → wi σ H R
/-- a target takes d; names outside vs stay -/
def OwnSub (e' e : List Slot) : Prop := ∀ (j : Nat) (p : Addr) (o : OD), e'[j]? = some (Slot.own p o) → e[j]? = some (Slot.own p o)
theorem OwnSub.refl {e : List Slot} : OwnSub e e := fun _ _ _ h => h
theorem OwnSub.trans {e e1 e2 : List Slot} (a : OwnSub e e1) (b : OwnSub e1 e2) : OwnSub e e2 := fun j p o h => b j p o (a j p o h)
theorem OwnSub.set {e : List Slot} {i : Nat} {d : D} : OwnSub (e.set i (.val d)) e := fun j p o h => by
  by_cases hj : i = j
  · subst hj
    rcases Nat.lt_or_ge i e.length with z | z
    · rw [List.getElem?_set_self z] at h; cases h
    · rw [List.getElem?_eq_none (by simpa using z)] at h; cases h
  · rwa [List.getElem?_set_ne hj] at h
structure GD (K : PySem.W.Frag) (g : TG) (vs : List Nat) (d : D) (e e' : List Slot) : Prop where
  sub : OwnSub e' e
  run : ∀ B F H σ x, RepS K B F H σ e → Rep K F d x → ∀ Q : L2.St → Hp → Prop,
    (∀ σ', RepS K B F H σ' e' → σ'.length = σ.length → (∀ k, k ∉ vs → σ'[k]? = σ[k]?) → Q σ' H) → g x σ H Q
structure GsD (K : PySem.W.Frag) (g : TGs) (vs : List Nat) (ds : List D) (e e' : List Slot) : Prop where
  sub : OwnSub e' e
  run : ∀ B F H σ xs, RepS K B F H σ e → RepL K F ds xs → ∀ Q : L2.St → Hp → Prop,
    (∀ σ', RepS K B F H σ' e' → σ'.length = σ.length → (∀ k, k ∉ vs → σ'[k]? = σ[k]?) → Q σ' H) → g xs σ H Q
section
variable {e e1 e2 : List Slot} {d : D} {vs : List Nat}
theorem gd_name {i : Nat} (hv : i ∈ vs) : GD K (gName i) vs d e (e.set i (.val d)) := ⟨.set, fun B F H σ x r rx Q q =>
  q _ (r.set rx) (by simp) fun k hk => List.getElem?_set_ne fun z => hk (by rw [← z]; exact hv)⟩
theorem gs_nil : GsD K gNil vs [] e e := ⟨.refl, fun B F H σ xs r rx Q q => ⟨rx, q σ r rfl fun _ _ => rfl⟩⟩
theorem gs_cons {t : TG} {u : TGs} {ds : List D} (h1 : GD K t vs d e e1) (h2 : GsD K u vs ds e1 e2) : GsD K (gCons t u) vs (d :: ds) e e2 := ⟨h2.sub.trans h1.sub, fun B F H σ xs r ⟨w, ws, hx, r1, r2⟩ Q q =>
  ⟨w, ws, hx, h1.run B F H σ w r r1 _ fun σ1 s1 l1 k1 => h2.run B F H σ1 ws s1 r2 _ fun σ2 s2 l2 k2 => q σ2 s2 (l2.trans l1) fun k hk => (k2 k hk).trans (k1 k hk)⟩⟩
theorem gd_tup {n : Nat} {t : TGs} {ds : List D} (h : GsD K t vs ds e e1) (hn : ds.length = n) : GD K (gTup K n t) vs (.tup ds) e e1 := ⟨h.sub, fun B F H σ x r ⟨a, us, h1, h2, h3⟩ Q q =>
  ⟨a, us, h1, ex_t r.fh h2, by rw [h3.len]; exact hn, h.run B F H σ us r h3 _ q⟩⟩
end
theorem gtup_asg {te : TE} {n : Nat} {t : TGs} {ds : List D} {env env1 env2 : List Slot} {P : Post} {vs : List Nat} (h : Ev K te env (.tup ds) env1) (hg : GsD K t vs ds env1 env2) (hn : ds.length = n) (k : P.n env2) : St K (tAsg te (gTup K n t)) env P := fun B F H σ E r f =>
  h B F H σ r _ fun v F1 H1 r1 g1 rv => (gd_tup hg hn).run B F1 H1 σ v r1 rv _ fun σ' r' _ _ => f.n σ' F1 H1 env2 r' g1 k

theorem st_for {wi : TI} {g : TG} {tb : TS} {env env1 : List Slot} {ds : List D} {Wp : List Slot → Prop} {P : Post} {vs : List Nat} (h : It K wi env ds env1 Wp) (I : Nat → List Slot → Prop) (h0 : I 0 env1) (hw : ∀ i e, i ≤ ds.length → I i e → Wp e)
    (hs : ∀ i d e, ds[i]? = some d → I i e → ∃ e', GD K g vs d e e' ∧ St K tb e' { n := I (i + 1), c := I (i + 1), b := P.n, r := P.r }) (hd : ∀ e, I ds.length e → P.n e) : St K (tFor wi g tb) env P := fun B F H σ E r f =>
  h B F H σ r _ fun J F1 H1 r1 g1 W => by
    refine ⟨fun i m σ' H' => m = ds.length - i ∧ i ≤ ds.length ∧ ∃ F' e, RepS K B F' H' σ' e ∧ Gr B F1 F' ∧ I i e, ⟨ds.length, by simp, Nat.zero_le _, F1, env1, r1, .refl, h0⟩, ?_⟩
    rintro i m σ' H' ⟨rfl, hi, F', e, r', g', hI⟩
    obtain ⟨w1, w2, w3⟩ := W B F' H' σ' e r' (hw i e hi hI) g'.f
    by_cases hlt : i < ds.length
    · refine .inr ⟨w1 i hlt, fun σ'' H'' => ∃ F'' e'', RepS K B F'' H'' σ'' e'' ∧ Gr B F1 F'' ∧ I (i + 1) e'', fun σ2 H2 p => ⟨ds.length - (i + 1), by omega, rfl, hlt, p⟩, fun x H2 y => ?_⟩
      obtain ⟨F2, u2, rx⟩ := w3 i _ x H2 (List.getElem?_eq_getElem hlt) y
      obtain ⟨e', hg, hb⟩ := hs i _ e (List.getElem?_eq_getElem hlt) hI
      have g2 : Gr B F1 F2 := g'.trans (.of_up r'.bh u2)
      refine hg.run B F2 H2 σ' x (r'.up u2) rx _ fun σ3 r3 _ _ => ?_
      refine hb B F2 H2 σ3 _ r3 ⟨fun σ4 F4 H4 e4 r4 g4 p => ⟨F4, e4, r4, g2.trans g4, p⟩, fun v σ4 F4 H4 e4 d r4 g4 rv p => f.r v σ4 F4 H4 e4 d r4 (g1.trans (g2.trans g4)) rv p, fun σ4 F4 H4 e4 r4 g4 p => f.n σ4 F4 H4 e4 r4 (g1.trans (g2.trans g4)) p, fun σ4 F4 H4 e4 r4 g4 p => ⟨F4, e4, r4, g2.trans g4, p⟩⟩
    · have hi' : i = ds.length := by omega
      subst hi'
      exact .inl ⟨w2, f.n σ' F' H' e r' (g1.trans g') (hd e hI)⟩

/-! ### comprehensions -/
def wipeE (env : List Slot) : List Nat → List Slot
  | [] => env
  | v :: vs => (wipeE env vs).set v .no
theorem wipeE_len (env : List Slot) : ∀ vs : List Nat, (wipeE env vs).length = env.length
  | [] => rfl
  | v :: vs => by show ((wipeE env vs).set v .no).length = _; rw [List.length_set, wipeE_len env vs]
theorem wipeE_get {env : List Slot} {s : Slot} : ∀ {vs : List Nat} {i : Nat}, (wipeE env vs)[i]? = some s → s = .no ∨ (i ∉ vs ∧ env[i]? = some s)
  | [], _, h => .inr ⟨by simp, h⟩
  | v :: vs, i, h => by
    have h : ((wipeE env vs).set v .no)[i]? = some s := h
    by_cases hv : v = i
    · subst hv
      have hl : v < (wipeE env vs).length := by
        rcases Nat.lt_or_ge v (wipeE env vs).length with z | z
        · exact z
        · rw [List.getElem?_eq_none (by simpa using z)] at h; cases h
      rw [List.getElem?_set_self hl] at h
      cases h; exact .inl rfl
    · rw [List.getElem?_set_ne hv] at h
      rcases wipeE_get h with z | ⟨z, y⟩
      · exact .inl z
      · exact .inr ⟨by simp; exact ⟨fun q => hv q.symm, z⟩, y⟩
theorem wipe_get {σ : L2.St} : ∀ {vs : List Nat} {i : Nat}, i ∉ vs → (wipe σ vs)[i]? = σ[i]?
  | [], _, _ => rfl
  | v :: vs, i, h => by
    show ((wipe σ vs).set v none)[i]? = _
    rw [List.getElem?_set_ne (fun q => h (by simp [q]))]
    exact wipe_get fun q => h (by simp [q])
theorem wipe_none {σ : L2.St} : ∀ {vs : List Nat} {i : Nat}, i ∈ vs → i < σ.length → (wipe σ vs)[i]? = some none
  | [], _, h, _ => by simp at h
  | v :: vs, i, h, hl => by
    show ((wipe σ vs).set v none)[i]? = _
    by_cases hv : v = i
    · subst hv; exact List.getElem?_set_self (by rw [wipe_length]; exact hl)
    · rw [List.getElem?_set_ne hv]
      rcases List.mem_cons.mp h with z | z
      · exact absurd z.symm hv
      · exact wipe_none z hl
theorem wipe_eq {σ σ' : L2.St} {vs : List Nat} (hl : σ'.length = (wipe σ vs).length) (h : ∀ k, k ∉ vs → σ'[k]? = (wipe σ vs)[k]?) : wipe σ' vs = wipe σ vs := by
  refine List.ext_getElem? fun k => ?_
  rw [wipe_length] at hl
  by_cases hk : k ∈ vs
  · rcases Nat.lt_or_ge k σ.length with z | z
    · rw [wipe_none hk z, wipe_none hk (by omega)]
    · rw [List.getElem?_eq_none (by rw [wipe_length]; omega), List.getElem?_eq_none (by rw [wipe_length]; omega)]
  · rw [wipe_get hk, h k hk]
theorem RepS.wipe {B F H : Hp} {σ : L2.St} {env : List Slot} (r : RepS K B F H σ env) (vs : List Nat) : RepS K B F H (L2.wipe σ vs) (wipeE env vs) where
  bh := r.bh
  fh := r.fh
  val := fun i d e => by
    rcases wipeE_get e with z | ⟨z, y⟩
    · cases z
    · rw [wipe_get z]; exact r.val i d y
  own := fun i p o e => by
    rcases wipeE_get e with z | ⟨z, y⟩
    · cases z
    · rw [wipe_get z]; exact r.own i p o y
  sep := fun i j p o u e1 e2 => by
    rcases wipeE_get e1 with z | ⟨z, y⟩
    · cases z
    · rcases wipeE_get e2 with z' | ⟨z', y'⟩
      · cases z'
      · exact r.sep i j p o u y y'
  len := by rw [wipeE_len, wipe_length]; exact r.len

/-- a block within: what stands around it, kept -/
theorem RepS.deep {B F H : Hp} {σ σ3 : L2.St} {env e' : List Slot} (r : RepS K B F H σ env) (r3 : RepS K B F H σ3 e') (sub : OwnSub e' env) :
    ∃ Bi : Hp, RepS K Bi F H σ3 e' ∧ ∀ F4 H4, RepS K Bi F4 H4 σ3 e' → Gr Bi F F4 → RepS K B F4 H4 σ env ∧ Gr B F F4 ∧
      ∀ a o, (∀ (j : Nat) (u : OD), e'[j]? ≠ some (Slot.own a u)) → H a = some o → H4 a = some o ∧ (F a = none → F4 a = none) := by
  classical
  refine ⟨fun a => if (∃ (j : Nat) (u : OD), e'[j]? = some (Slot.own a u)) then none else H a, ?_, ?_⟩
  · refine ⟨fun a o h => ?_, r3.fh, r3.val, fun j p o h => ?_, r3.sep, r3.len⟩
    · split at h
      · cases h
      · exact h
    · obtain ⟨a1, a2, a3, a4⟩ := r3.own j p o h
      exact ⟨a1, if_pos ⟨j, o, h⟩, a3, a4⟩
  · intro F4 H4 r4 g4
    have keep : ∀ a o, (∀ (j : Nat) (u : OD), e'[j]? ≠ some (Slot.own a u)) → H a = some o → H4 a = some o ∧ (F a = none → F4 a = none) := fun a o hn ha => by
      have hb : (if (∃ (j : Nat) (u : OD), e'[j]? = some (Slot.own a u)) then none else H a) = some o := by
        rw [if_neg (fun ⟨j, u, z⟩ => hn j u z)]; exact ha
      exact ⟨r4.bh a o hb, fun hf => g4.no a hf (by rw [hb]; simp)⟩
    have notB : ∀ a o, B a = some o → ∀ (j : Nat) (u : OD), e'[j]? ≠ some (Slot.own a u) := fun a o ha j u z => by
      have := (r3.own j a u z).2.1
      rw [ha] at this; cases this
    refine ⟨⟨fun a o ha => (keep a o (notB a o ha) (r.bh a o ha)).1, r4.fh, fun i d e => let ⟨v, h1, h2⟩ := r.val i d e; ⟨v, h1, h2.mono g4.f⟩, fun j p o e => ?_, r.sep, r.len⟩, ⟨g4.f, fun a hf hb => ?_⟩, keep⟩
    · obtain ⟨a1, a2, a3, a4⟩ := r.own j p o e
      by_cases hx : ∃ (j : Nat) (u : OD), e'[j]? = some (Slot.own p u)
      · obtain ⟨j', u, hx⟩ := hx
        have hy := sub j' p u hx
        have hj : j = j' := r.sep j j' p o u e hy
        subst hj
        rw [e] at hy
        injection hy with hy
        injection hy with _ hy
        subst hy
        obtain ⟨b1, b2, b3, b4⟩ := r4.own j p o hx
        exact ⟨a1, a2, b3, b4⟩
      · have hn : ∀ (j : Nat) (u : OD), e'[j]? ≠ some (Slot.own p u) := fun j u z => hx ⟨j, u, z⟩
        obtain ⟨w, hw⟩ := a4.some
        exact ⟨a1, a2, (keep p w hn hw).2 a3, a4.mono g4.f fun o' ho => (keep p o' hn ho).1⟩
    · cases hB : B a with
      | none => exact absurd hB hb
      | some o => exact (keep a o (notB a o hB) (r.bh a o hB)).2 hf
/-- what a comprehension gives; its turns change nothing of the names around -/
theorem en_lc {α : Type} {wi : TI} {g : TG} {tt : TT} {te : TE} {vs : List Nat} {env env1 : List Slot} {ds : List D} {Wp : List Slot → Prop} (l : List α) (φ : α → D) (b : α → Bool) (v : α → D) (h : It K wi env ds env1 Wp) (hds : ds = l.map φ)
    (hw : Wp (wipeE env1 vs)) (hl : l.length ≤ 90000)
    (hs : ∀ a, a ∈ l → ∃ e', GD K g vs (φ a) (wipeE env1 vs) e' ∧ EvT K tt e' (b a) e' ∧ (b a = true → Ev K te e' (v a) e')) : EvN K (tLc wi g tt te vs) env ((l.filter b).map v) env1 := fun B F H σ r Q q =>
  h B F H σ r _ fun J F1 H1 r1 g1 W Dl hD => by
    subst hds
    have hlen : (l.map φ).length = l.length := List.length_map _
    refine ⟨fun i m H' => m = l.length - i ∧ i ≤ l.length ∧ ∃ F' us, RepS K B F' H' σ env1 ∧ Gr B F1 F' ∧ F' Dl = none ∧ H' Dl = some (.lst us) ∧ RepL K F' (((l.take i).filter b).map v) us,
      ⟨l.length, by simp, Nat.zero_le _, F1, [], r1.up (Up.heap r1.fh hD), .refl, fresh_back r1.fh hD, upd_same, by simp; rfl⟩, ?_⟩
    rintro i m H' ⟨rfl, hi, F', us, r', g', hF', hH', hr'⟩
    obtain ⟨w1, w2, w3⟩ := W B F' H' _ _ (r'.wipe vs) hw g'.f
    by_cases hlt : i < l.length
    · have hlt' : i < (l.map φ).length := by rw [hlen]; exact hlt
      refine .inr ⟨w1 i hlt', fun H'' => ∃ F'' us, RepS K B F'' H'' σ env1 ∧ Gr B F1 F'' ∧ F'' Dl = none ∧ H'' Dl = some (.lst us) ∧ RepL K F'' (((l.take (i + 1)).filter b).map v) us, fun H2 p => ⟨l.length - (i + 1), by omega, rfl, hlt, p⟩, fun x H2 y => ?_⟩
      have ea : (l.map φ)[i]? = some (φ l[i]) := by rw [List.getElem?_map, List.getElem?_eq_getElem hlt]; rfl
      obtain ⟨F2, u2, rx⟩ := w3 i _ x H2 ea y
      obtain ⟨e', hg, ht, he⟩ := hs l[i] (List.getElem_mem hlt)
      have r2 := r'.up u2
      have g2 : Gr B F1 F2 := g'.trans (.of_up r'.bh u2)
      have et : l.take (i + 1) = l.take i ++ [l[i]] := by rw [List.take_succ, List.getElem?_eq_getElem hlt]; rfl
      have nown : ∀ (j : Nat) (o : OD), e'[j]? ≠ some (Slot.own Dl o) := fun j o e => by
        rcases wipeE_get (hg.sub j Dl o e) with z | ⟨_, y⟩
        · cases z
        · obtain ⟨w, hw⟩ := (r1.own j Dl o y).2.2.2.some
          rw [hD] at hw; cases hw
      have hF2D : F2 Dl = none := u2.no Dl hF' (by rw [hH']; simp)
      have sub : OwnSub e' env1 := fun j p o e => by
        rcases wipeE_get (hg.sub j p o e) with z | ⟨_, y⟩
        · cases z
        · exact y
      refine hg.run B F2 H2 _ x (r2.wipe vs) rx _ fun σ3 r3 hl3 hk3 => ⟨wipe_eq hl3 hk3, ?_⟩
      obtain ⟨Bi, ri, back⟩ := r2.deep r3 sub
      refine ht _ F2 H2 σ3 ri _ fun F4 H4 r4 g4 => ?_
      cases hb : b l[i] with
      | true =>
        refine iteT (he hb _ F4 H4 σ3 r4 _ fun y F5 H5 r5 g5 ry => ?_)
        obtain ⟨k1, k2, k3⟩ := back F5 H5 r5 (g4.trans g5)
        obtain ⟨k4, k5⟩ := k3 Dl _ nown (u2.h _ _ hH')
        refine ⟨us, k4, sz_lt ?_, F5, us ++ [y], ⟨k1.bh.mut (fresh_back r1.bh hD), k1.fh.mut (k5 hF2D), k1.val, fun j p o e => ?_, k1.sep, k1.len⟩, g2.trans k2, k5 hF2D, upd_same, ?_⟩
        · rw [hr'.len, List.length_map]
          have := List.length_filter_le b (l.take i)
          have := List.length_take_le i l
          omega
        · obtain ⟨a1, a2, a3, a4⟩ := k1.own j p o e
          refine ⟨a1, a2, a3, a4.mono (.refl _) fun o' ho => ?_⟩
          have ne : p ≠ Dl := fun z => by
            obtain ⟨w, hw⟩ := (r1.own j p o e).2.2.2.some
            rw [z, hD] at hw; cases hw
          rw [upd_ne ne]; exact ho
        · rw [et, List.filter_append, List.map_append, List.filter_cons, if_pos hb]
          exact (hr'.mono (u2.f.trans (g4.f.trans g5.f))).snoc ry
      | false =>
        obtain ⟨k1, k2, k3⟩ := back F4 H4 r4 g4
        obtain ⟨k4, k5⟩ := k3 Dl _ nown (u2.h _ _ hH')
        refine iteF ⟨F4, us, k1, g2.trans k2, k5 hF2D, k4, ?_⟩
        rw [et, List.filter_append, List.map_append, List.filter_cons, if_neg (by rw [hb]; exact Bool.false_ne_true)]
        simpa using hr'.mono (u2.f.trans g4.f)
    · have hi' : i = l.length := by omega
      subst hi'
      rw [hlen] at w2
      rw [List.take_length] at hr'
      refine .inl ⟨w2, q Dl us F' H' r' (g1.trans g') (fresh_back r1.bh hD) hF' (fun j o e => ?_) hH' hr'⟩
      obtain ⟨w, hw⟩ := (r1.own j Dl o e).2.2.2.some
      rw [hD] at hw; cases hw
end Dl

set_option Elab.async false
set_option linter.all false
set_option maxRecDepth 100000
set_option maxHeartbeats 4000000
set_option autoImplicit false
/-! Ru: rules that ask no kind of thing: what stands there says which of the layer's rules is meant. -/
namespace Dl
open PySem L2 Evl PyProof.Rows
section
variable {X : Cx}
theorem OpR.or {f : Value → Value → Sem Value} {r r' : R2} (h : OpR X f r) (h' : OpR X f r') : OpR X f (fun x y H Q => r x y H Q ∨ r' x y H Q) := by
  intro pins s σ H x y v u Q I rx ry q
  rcases q with q | q
  · exact h pins s σ H x y v u Q I rx ry q
  · exact h' pins s σ H x y v u Q I rx ry q
theorem CallR.or {f : Value} {r r' : List V → Hp → VK → Prop} (h : CallR X f r) (h' : CallR X f r') : CallR X f (fun xs H Q => r xs H Q ∨ r' xs H Q) := by
  intro pins s σ H xs us Q I rs q
  rcases q with q | q
  · exact h pins s σ H xs us Q I rs q
  · exact h' pins s σ H xs us Q I rs q
def rStrAdd : R2 := fun x y H Q => ∃ i j, x = .str i ∧ y = .str j ∧ i.length + j.length ≤ sizeLine ∧ Q (.str (i ++ j)) H
/-- + -/
def uAdd (K : PySem.W.Frag) : R2 := fun x y H Q => rI0 (fun i j => .int (i + j)) x y H Q ∨ rStrAdd x y H Q ∨ rCat x y H Q ∨ rCatA K x y H Q
theorem op_uAdd : OpR X (binaryOp .Add) (uAdd X.K) := op_add.or (.or op_add_str (.or op_cat op_catA))
def uSub : R2 := rI0 fun i j => .int (i - j)
theorem op_uSub : OpR X (binaryOp .Sub) uSub := op_sub
def uMul (K : PySem.W.Frag) : R2 := fun x y H Q => rI CMulW (fun i j => .int (i * j)) x y H Q ∨ rRep x y H Q ∨ rRepT K x y H Q
theorem op_uMul : OpR X (binaryOp .Mult) (uMul X.K) := OpR.or op_mulW (.or op_rep op_repT)
def uDiv : R2 := rI CDivW fun i j => .int (i / j)
theorem op_uDiv : OpR X (binaryOp .FloorDiv) uDiv := op_fdivW
def uMod : R2 := rI (fun _ j => 0 < j) fun i j => .int (i % j)
theorem op_uMod : OpR X (binaryOp .Mod) uMod := op_mod
def CPowW (i j : Int) : Prop := 0 ≤ j ∧ (Builtin.Int.intBits i : Int) * j ≤ 2 ^ 27
def uPow : R2 := rI CPowW fun i j => .int (i ^ j.toNat)
theorem op_uPow : OpR X (binaryOp .Pow) uPow := opI fun _ _ _ _ _ _ _ hc q => pow_int hc.1 hc.2 q
def uLt : R2 := rI0 fun i j => .bl (decide (i < j))
def uLe : R2 := rI0 fun i j => .bl (decide (i ≤ j))
def uGt : R2 := rI0 fun i j => .bl (decide (j < i))
def uGe : R2 := rI0 fun i j => .bl (decide (j ≤ i))
theorem op_uLt : OpR X (compareOp .Lt) uLt := op_lt
theorem op_uLe : OpR X (compareOp .LtE) uLe := op_le
theorem op_uGt : OpR X (compareOp .Gt) uGt := op_gt
theorem op_uGe : OpR X (compareOp .GtE) uGe := op_ge
/-- ==: scalars, data at any depth, a dict against an empty one -/
def rEqE : R2 := fun x y H Q => ∃ a b kvs, x = .ref a ∧ y = .ref b ∧ Rd H a (.dK kvs) ∧ H b = some (.dK []) ∧ Q (.bl kvs.isEmpty) H
def rNeE : R2 := fun x y H Q => ∃ a b kvs, x = .ref a ∧ y = .ref b ∧ Rd H a (.dK kvs) ∧ H b = some (.dK []) ∧ Q (.bl !kvs.isEmpty) H
theorem op_eqE (hu : X.A.units < cLine) : OpR X (compareOp .Eq) rEqE := by
  intro pins s σ H x y v u Q I rx ry h
  obtain ⟨a, b, kvs, rfl, rfl, ea, eb, q⟩ := h
  obtain rfl : v = Value.ref a := rx
  obtain rfl : u = Value.ref b := ry
  obtain ⟨_, ya, va, ra, da⟩ := (show ObjOk X.prog X.w H s.heap a (.dK kvs) from ea.ok I.hok)
  obtain ⟨_, yb, vb, rb, db⟩ := (show ObjOk X.prog X.w H s.heap b (.dK []) from I.hok b _ eb)
  cases rb
  cases ra with
  | nil => exact PySem.W.keq_eq (knd := mixKind X.prog X.w) (r := true) ya yb da db hu (fun _ => .nil) (fin_bl I q (by simp))
  | cons r t => exact PySem.W.keq_eq (knd := mixKind X.prog X.w) (r := true) ya yb da db hu (fun h => by simp at h) (fin_bl I q (by simp))
theorem op_neE (hu : X.A.units < cLine) : OpR X (compareOp .NotEq) rNeE := by
  intro pins s σ H x y v u Q I rx ry h
  obtain ⟨a, b, kvs, rfl, rfl, ea, eb, q⟩ := h
  obtain rfl : v = Value.ref a := rx
  obtain rfl : u = Value.ref b := ry
  obtain ⟨_, ya, va, ra, da⟩ := (show ObjOk X.prog X.w H s.heap a (.dK kvs) from ea.ok I.hok)
  obtain ⟨_, yb, vb, rb, db⟩ := (show ObjOk X.prog X.w H s.heap b (.dK []) from I.hok b _ eb)
  cases rb
  cases ra with
  | nil => exact PySem.W.keq_ne (knd := mixKind X.prog X.w) (r := true) ya yb da db hu (fun _ => .nil) (fin_bl I q (by simp))
  | cons r t => exact PySem.W.keq_ne (knd := mixKind X.prog X.w) (r := true) ya yb da db hu (fun h => by simp at h) (fin_bl I q (by simp))
def uEq (K : PySem.W.Frag) : R2 := fun x y H Q => rEq x y H Q ∨ rEqD K x y H Q ∨ rEqE x y H Q
theorem op_uEq (hu : X.A.units + 64 < cLine) : OpR X (compareOp .Eq) (uEq X.K) := op_eq.or ((op_eqD hu).or (op_eqE (by omega)))
def uNe (K : PySem.W.Frag) : R2 := fun x y H Q => rNe x y H Q ∨ rNeD K x y H Q ∨ rNeE x y H Q
theorem op_uNe (hu : X.A.units + 64 < cLine) : OpR X (compareOp .NotEq) (uNe X.K) := op_ne.or ((op_neD hu).or (op_neE (by omega)))
def rInStr : R2 := fun x y H Q => ∃ i j, x = .str i ∧ y = .str j ∧ Q (.bl (!(Builtin.Str.occurrences j i 0 j.length 1).isEmpty)) H
def rNiStr : R2 := fun x y H Q => ∃ i j, x = .str i ∧ y = .str j ∧ Q (.bl (!(!(Builtin.Str.occurrences j i 0 j.length 1).isEmpty))) H
def rInSg : R2 := fun x y H Q => ∃ (c : Nat) (z : Str), x = .str ⟨#[c]⟩ ∧ y = .str z ∧ Q (.bl (decide (c ∈ z.cps.toList))) H
def rNiSg : R2 := fun x y H Q => ∃ (c : Nat) (z : Str), x = .str ⟨#[c]⟩ ∧ y = .str z ∧ Q (.bl (!decide (c ∈ z.cps.toList))) H
def rInD : R2 := fun y x H Q => ∃ a o, x = .ref a ∧ DGet H a y o ∧ Q (.bl o.isSome) H
def rNiD : R2 := fun y x H Q => ∃ a o, x = .ref a ∧ DGet H a y o ∧ Q (.bl (!o.isSome)) H
theorem op_inD (hu : X.A.units + 1 < cLine) : OpR X (compareOp .In) rInD := by
  intro pins s σ H y x v u Q I ry rx h
  obtain ⟨a, o, rfl, g, q⟩ := h
  cases (show u = Value.ref a from rx)
  exact d_in hu I g ry fun s3 I3 => ⟨.bl o.isSome, H, I3, rfl, q⟩
theorem op_niD (hu : X.A.units + 1 < cLine) : OpR X (compareOp .NotIn) rNiD := by
  intro pins s σ H y x v u Q I ry rx h
  obtain ⟨a, o, rfl, g, q⟩ := h
  cases (show u = Value.ref a from rx)
  exact d_notIn hu I g ry fun s3 I3 => ⟨.bl (!o.isSome), H, I3, rfl, q⟩
def uIn (K : PySem.W.Frag) : R2 := fun x y H Q => rIn K false x y H Q ∨ rInSg x y H Q ∨ rInD x y H Q
def uNi (K : PySem.W.Frag) : R2 := fun x y H Q => rIn K true x y H Q ∨ rNiSg x y H Q ∨ rNiD x y H Q
theorem op_uIn (hu : X.A.units + 64 < cLine) : OpR X (compareOp .In) (uIn X.K) := op_in_seq.or (.or op_in_sign (op_inD (by omega)))
theorem op_uNi (hu : X.A.units + 64 < cLine) : OpR X (compareOp .NotIn) (uNi X.K) := op_notIn_seq.or (.or op_notIn_sign (op_niD (by omega)))
def rIsN : R2 := fun x y H Q => y = .non ∧ Q (.bl (decide (x = .non))) H
def rNtN : R2 := fun x y H Q => y = .non ∧ Q (.bl (!decide (x = .non))) H
def uIs : R2 := fun x y H Q => rIsN x y H Q ∨ rIsB x y H Q
def uNt : R2 := fun x y H Q => rNtN x y H Q ∨ rNotB x y H Q
theorem op_uIs : OpR X (compareOp .Is) uIs := OpR.or op_isN op_isBl
theorem op_uNt : OpR X (compareOp .IsNot) uNt := OpR.or op_notN op_notBl
/-- a[b] -/
def rIxDc : R2 := fun x y H Q => ∃ a v, x = .ref a ∧ DGet H a y (some v) ∧ Q v H
theorem ix_dict (hu : X.A.units + 1 < cLine) : IxR X rIxDc := by
  intro value slice pins s σ H x y v u Q I rx ry h hs
  obtain ⟨a, w, rfl, g, q⟩ := h
  cases (show v = Value.ref a from rx)
  unfold subscriptTail
  have hT := dict_typeIs I g
  refine wpAny_bind ?_
  rw [getitemInPython_of_ne hT.not_modules]
  refine wpAny_bind (wpAny_specialOf hT PySem.F.slot_dict_getitem.lookup ?_)
  have fin : ∀ {Q' : Value → Shared → Prop}, (∀ r s₃, EP X pins σ Q r s₃ → Q' r s₃) → wpAny (model X.prog X.w) X.A (subscripted slice false (.ref a) u) (fun r s₃ => wpAny (model X.prog X.w) X.A (letTemporaryGo value (.ref a) r >>= fun _ => pure r) Q' X.xe s₃) X.xe s := fun {Q'} hQ => by
    rw [hs]
    exact wpAny_operating (d_getItem hu I g ry fun w' s3 I3 rw' => wpAny_bind (wpAny_letTemporaryGo (wpAny_pure (hQ _ _ ⟨w, H, I3, rw', q⟩))))
  first
    | exact wpAny_pure (wpAny_bind (fin fun _ _ h => h))
    | exact wpAny_bind (wpAny_pure (wpAny_bind (fin fun _ _ h => h)))
    | exact wpAny_bind (fin fun _ _ h => h)
def uIx (K : PySem.W.Frag) : R2 := fun x y H Q => rIx K x y H Q ∨ rIxDc x y H Q
theorem ix_u (hu : X.A.units + 64 < cLine) : IxR X (uIx X.K) := ix_seq.or (ix_dict (by omega))
/-- a[lo:hi] -/
def uSl (K : PySem.W.Frag) : V → Option Int → Option Int → Hp → VK → Prop := fun x lo hi H Q => rSlL K x lo hi H Q ∨ rSlA K x lo hi H Q ∨ rSlS x lo hi H Q
theorem sl_u : SlR X (uSl X.K) := SlR.or sl_list (.or sl_tupA sl_str)
/-- a[b] = e -/
def uSet : TSet := fun o i v H Q => rSetL o i v H Q ∨ rSetD o i v H Q
theorem set_u (hu : X.A.units + 64 < cLine) : PSet X uSet := by
  intro pins s σ H o i v ov iv nv Q I ro ri rv q
  rcases q with q | q
  · exact set_list pins s σ H o i v ov iv nv Q I ro ri rv q
  · exact set_dict (by omega) pins s σ H o i v ov iv nv Q I ro ri rv q
/-- built-ins -/
def rLen (K : PySem.W.Frag) : List V → Hp → VK → Prop := fun xs H Q => ∃ x n, xs = [x] ∧ LenV K x H n ∧ Q (.int (n : Nat)) H
def rLenD : List V → Hp → VK → Prop := fun xs H Q => ∃ a kvs, xs = [V.ref a] ∧ Rd H a (.dK kvs) ∧ Q (.int (kvs.length : Nat)) H
theorem call_lenR : CallR X (.builtin "len") rLenD := by
  intro pins s σ H xs us Q I r h
  obtain ⟨a, kvs, rfl, ha, q⟩ := h
  obtain ⟨u, rfl, ru⟩ := vals1 r
  cases ru
  exact d_len I ha fun t s' I' => ⟨.int kvs.length, H, I', ⟨t, rfl⟩, q⟩
def uLen (K : PySem.W.Frag) : List V → Hp → VK → Prop := fun xs H Q => rLen K xs H Q ∨ rLenD xs H Q
theorem cr_uLen : CallR X (.builtin "len") (uLen X.K) := CallR.or call_len call_lenR
def rMax2 : List V → Hp → VK → Prop := fun xs H Q => ∃ i j, xs = [.int i, .int j] ∧ Q (.int (if j > i then j else i)) H
def rMin2 : List V → Hp → VK → Prop := fun xs H Q => ∃ i j, xs = [.int i, .int j] ∧ Q (.int (if j < i then j else i)) H
def uMax (K : PySem.W.Frag) : List V → Hp → VK → Prop := fun xs H Q => rMax K xs H Q ∨ rMax2 xs H Q
def uMin (K : PySem.W.Frag) : List V → Hp → VK → Prop := fun xs H Q => rMin K xs H Q ∨ rMin2 xs H Q
theorem cr_uMax (hc : X.calm = true) : CallR X (.builtin "max") (uMax X.K) := CallR.or (cr_max hc) (call_max2 hc)
theorem cr_uMin (hc : X.calm = true) : CallR X (.builtin "min") (uMin X.K) := CallR.or (cr_min hc) (call_min2 hc)
def rAbs : List V → Hp → VK → Prop := fun xs H Q => ∃ i, xs = [.int i] ∧ Q (.int (if i < 0 then -i else i)) H
theorem cr_uAbs : CallR X (.builtin "abs") rAbs := call_abs
def rInt1 : List V → Hp → VK → Prop := fun xs H Q => (∃ i, xs = [.int i] ∧ Q (.int i) H) ∨ ∃ k, xs = [.bl k] ∧ Q (.int (if k then 1 else 0)) H
def rIntS : List V → Hp → VK → Prop := fun xs H Q => ∃ a n, xs = [.str a] ∧ PySem.intText? a = some n ∧ a.length ≤ 640 ∧ Q (.int n) H
def uInt : List V → Hp → VK → Prop := fun xs H Q => rInt1 xs H Q ∨ rIntS xs H Q
theorem cr_uInt : CallR X (.type "int") uInt := CallR.or call_int1 call_int_str
def rStrI : List V → Hp → VK → Prop := fun xs H Q => ∃ i, xs = [.int i] ∧ i.natAbs.log2 < 1920 ∧ Q (.str (toString i)) H
theorem cr_uStr : CallR X (.type "str") rStrI := call_str_int
def rListS (K : PySem.W.Frag) : List V → Hp → VK → Prop := fun xs H Q => ∃ p ys, xs = [.ref p] ∧ (SqL K H p ys ∨ SqT K H p ys) ∧ ∀ l, H l = none → Q (.ref l) (upd H l (.lst ys))
def rListD : List V → Hp → VK → Prop := fun xs H Q => ∃ (a : Addr) (kvs : List (Key × V)), xs = [.ref a] ∧ Rd H a (.dK kvs) ∧ ∀ p, H p = none → Q (.ref p) (upd H p (.lst (kvs.map fun kv => kV kv.1)))
def uList (K : PySem.W.Frag) : List V → Hp → VK → Prop := fun xs H Q => rListS K xs H Q ∨ rListD xs H Q
theorem cr_uList (hc : X.calm = true) : CallR X (.type "list") (uList X.K) := CallR.or call_list_of (call_listD hc)
def rTupS (K : PySem.W.Frag) : List V → Hp → VK → Prop := fun xs H Q => ∃ p ys, xs = [.ref p] ∧ ((SqL K H p ys ∧ ∀ l, H l = none → Q (.ref l) (upd H l (.tup ys))) ∨ (SqT K H p ys ∧ Q (.ref p) H))
theorem cr_uTup : CallR X (.type "tuple") (rTupS X.K) := call_tuple_of
/-- what a for walks: a list, a tuple, a text -/
def iAny (K : PySem.W.Frag) (tl : TE) : TI := fun σ H R => tl σ H fun x H1 =>
  (∃ a, x = .ref a ∧ (∃ xs, SqL K H1 a xs) ∧ R (Itl K a) H1) ∨ (∃ a, x = .ref a ∧ (∃ xs, SqT K H1 a xs) ∧ R (Itt K a) H1) ∨ ∃ y, x = .str y ∧ R (Its y) H1
theorem pi_any {tg l : Expr} {tl : TE} (hl : PE X l tl) : PI X tg l (iAny X.K tl) := by
  refine ⟨fun pins s σ H R I h => ?_⟩
  refine thn (hl.run pins s σ H _ I h) fun v s1 ⟨x, H1, I1, r1, q1⟩ => ?_
  rcases q1 with ⟨a, e, ⟨xs, hq⟩, q⟩ | ⟨a, e, ⟨xs, hq⟩, q⟩ | ⟨y, e, q⟩
  · subst e
    cases r1
    obtain ⟨its, rv, p, hz⟩ := I1.list hq
    refine wpAny_pyIter_list p.isList ?_
    refine ⟨s1.heap.objs.size, [s1.heap.objs.size], _, _, H1, rfl, I1.kept (t' := s1.toks) fun b o e => Heap.get?_push_of_some _ e, turn_list a _, ⟨_, Heap.get?_push_size _ rfl, rfl, rfl⟩, fun b hb => ?_, q⟩
    have e : b = s1.heap.objs.size := by simpa using hb
    subst e
    exact I1.fpOk (Nat.le_refl _) (I1.hok.fresh (Nat.le_refl _))
  · subst e
    cases r1
    obtain ⟨its, rv, p, hz⟩ := I1.tuple hq
    refine wpAny_pyIter_tuple (show s1.heap.IsTuple a its.toArray from p) ?_
    refine ⟨s1.heap.objs.size, [s1.heap.objs.size], _, _, H1, rfl, I1.kept (t' := s1.toks) fun b o e => Heap.get?_push_of_some _ e, turn_tuple a _, ⟨_, Heap.get?_push_size _ rfl, rfl, rfl⟩, fun b hb => ?_, q⟩
    have e : b = s1.heap.objs.size := by simpa using hb
    subst e
    exact I1.fpOk (Nat.le_refl _) (I1.hok.fresh (Nat.le_refl _))
  · subst e
    obtain ⟨t, rfl⟩ := r1
    cases ha : y.cps.all (· < 128)
    · exact wpAny_pyIter_wide ha (pi_one (tk := s1.toks) I1 _ (turn_str _ y t "str_iterator" (.inr rfl)) ⟨_, Heap.get?_push_size _ rfl, rfl, rfl⟩ q)
    · exact wpAny_pyIter_ascii ha (pi_one (tk := s1.toks) I1 _ (turn_str _ y t "str_ascii_iterator" (.inl rfl)) ⟨_, Heap.get?_push_size _ rfl, rfl, rfl⟩ q)
end
end Dl

set_option Elab.async false
set_option linter.all false
set_option maxRecDepth 100000
set_option maxHeartbeats 4000000
set_option autoImplicit false
/-! Wk: enumerate and zip over lists and tuples, in any mix. -/
namespace PySem
open Sem (wp)
set_option maxHeartbeats 1000000 in
theorem meets_enumerate_newB1 {v : Value} {o : Obj} {H : Heap → Prop} (B : Begins v o H) :
    Meets (Builtin.«enumerate.__new__» ⟨[.type "enumerate", v], []⟩) (fun _ R s => H s.heap ∧
      R (.ok (.ret (.ref (s.heap.push o).objs.size))) { s with heap := (s.heap.push o).push { cls := .type "enumerate", data := .fields #[.none, .bool false, .ref s.heap.objs.size, rawInt 0, .none, .none] } }) :=
  .of_wp fun prog w A R s h => by
    obtain ⟨hp, g, d, tk, os⟩ := s; obtain ⟨h1, h⟩ := h
    have hsub := sub_enumerate
    have q1 : ∀ {A' : Around} {E : Value → Shared → Prop} {Q : Value → Shared → Prop}, Q (.ref hp.objs.size) ⟨hp.push o, g, d, tk, os⟩ → wpAny (model prog w) A' (pyIter v) Q E ⟨hp, g, d, tk, os⟩ :=
      fun q => B.iter prog w _ _ ⟨hp, g, d, tk, os⟩ _ h1 q
    wp_walk using q1
    refine wpAny_stack_any fun st => wpAny_pure ?_
    split
    · rename_i c _ _ _ _ _
      cases (c == Value.type "enumerate")
      · wp_walk using q1
        exact ⟨_, rfl, h⟩
      · wp_walk using q1
        exact ⟨_, rfl, h⟩
    · wp_walk using q1
      exact ⟨_, rfl, h⟩
theorem enum_begins1 {prog : Program} {w : World} {A : Around} {E : Value → Shared → Prop} {s : Shared} {v : Value} {o : Obj} {H : Heap → Prop} {Q : Value → Shared → Prop} (B : Begins v o H) (h1 : H s.heap)
    (h : ∀ h', IsEnum h' (s.heap.objs.size + 1) s.heap.objs.size 0 .none → h'.get? s.heap.objs.size = some o → h'.objs.size = s.heap.objs.size + 2 →
      (∀ b o, s.heap.get? b = some o → h'.get? b = some o) → Q (.ref (s.heap.objs.size + 1)) { s with heap := h' }) :
    wpAny (model prog w) A (call (.type "enumerate") [v]) Q E s := by
  refine callType_new F.called_enumerate (by decide) (F.typeCall_enumerate_1 _) (F.newCall_enumerate_1 _) (fun obj => F.args_object_init_2 obj _) F.entry_enumerate_new
    (meets_enumerate_newB1 B) ⟨h1, ?_⟩
  have hz : (s.heap.push o).objs.size = s.heap.objs.size + 1 := Heap.size_push ..
  show _ ∧ _
  rw [hz]
  have he : IsEnum ((s.heap.push o).push { cls := .type "enumerate", data := .fields #[.none, .bool false, .ref s.heap.objs.size, rawInt 0, .none, .none] }) (s.heap.objs.size + 1) s.heap.objs.size 0 .none := by
    have := Heap.get?_push_size (s.heap.push o) (o := { cls := .type "enumerate", data := .fields #[.none, .bool false, .ref s.heap.objs.size, rawInt 0, .none, .none] }) rfl
    rw [hz] at this; exact this
  refine ⟨⟨_, he, rfl⟩, h _ he (Heap.get?_push_of_some _ (Heap.get?_push_size _ B.free)) (by rw [Heap.size_push, hz]) fun b o x => Heap.get?_push_of_some _ (Heap.get?_push_of_some _ x)⟩
end PySem
namespace Dl
open PySem L2 Evl PyProof.Rows
/-- a list (true) or a tuple (false) -/
def SqK (k : Bool) (K : PySem.W.Frag) (H : Hp) (a : Addr) (xs : List V) : Prop := match k with
  | true => SqL K H a xs
  | false => SqT K H a xs
def ItK (k : Bool) (h : Heap) (it a : Addr) (i : Nat) : Prop := match k with
  | true => h.IsListIter it a i
  | false => h.IsTupleIter it a i
def ObK (k : Bool) (h : Heap) (a : Addr) (xs : Array Value) : Prop := match k with
  | true => h.IsList a xs
  | false => h.IsTuple a xs
def objK (k : Bool) (a : Addr) : Obj := match k with
  | true => { cls := .type "list_iterator", data := .fields #[.ref a, .int 0 0] }
  | false => { cls := .type "tuple_iterator", data := .fields #[.ref a, .int 0 0] }
theorem draws_k {prog : Program} {w : World} {A : Around} (k : Bool) (hh : A.handled = none) (it l : Addr) (hne : l ≠ it) (items : Array Value) :
    Draws prog w A it [it, l] items.size (fun i v => items[i]? = some v) (fun i h => ItK k h it l i ∧ ObK k h l items) := by
  cases k
  · exact Draws.tuple hh it l hne items
  · exact Draws.list hh it l hne items
theorem begins_k (k : Bool) (l : Addr) (items : Array Value) : Begins (.ref l) (objK k l) fun h => ObK k h l items := by
  cases k
  · exact begins_tuple l items
  · exact begins_list l items
theorem itK_new {k : Bool} {h : Heap} {it a : Addr} (e : h.get? it = some (objK k a)) : ItK k h it a 0 := by
  cases k
  · exact ⟨_, e, rfl, rfl⟩
  · exact ⟨_, e, rfl, rfl⟩
theorem ItK.at {k : Bool} {h h' : Heap} {it a : Addr} {i : Nat} (x : ItK k h it a i) (f : ∀ o, h.get? it = some o → h'.get? it = some o) : ItK k h' it a i := by
  cases k
  · obtain ⟨o, e, c⟩ := x; exact ⟨o, f o e, c⟩
  · obtain ⟨o, e, c⟩ := x; exact ⟨o, f o e, c⟩
theorem ItK.obj {k : Bool} {h : Heap} {it a : Addr} {i : Nat} (x : ItK k h it a i) : ∃ o, h.get? it = some o ∧ ∀ v, o.data ≠ .cell v := by
  cases k
  · obtain ⟨o, e, _, d⟩ := x; exact ⟨o, e, fun v q => by rw [d] at q; cases q⟩
  · obtain ⟨o, e, _, d⟩ := x; exact ⟨o, e, fun v q => by rw [d] at q; cases q⟩
section
variable {X : Cx} {pins : List (Addr × Obj)} {σ : L2.St} {H : Hp} {s : Shared}
theorem inv_k (I : Inv X pins σ H s) {k : Bool} {a : Addr} {xs : List V} (h : SqK k X.K H a xs) : ∃ its : List Value, Vals xs its ∧ ObK k s.heap a its.toArray ∧ a < s.heap.objs.size := by
  cases k
  · obtain ⟨its, r, p, _⟩ := I.tuple h; exact ⟨its, r, p, p.lt⟩
  · obtain ⟨its, r, p, _⟩ := I.list h; exact ⟨its, r, p.isList, p.lt⟩
theorem inv_k_inj (I : Inv X pins σ H s) {k : Bool} {a : Addr} {xs ys : List V} (h : SqK k X.K H a xs) (h' : SqK k X.K H a ys) : xs = ys := by
  cases k
  · exact I.tuple_inj h h'
  · exact I.list_inj h h'
end
def ItZ (K : PySem.W.Frag) (k1 k2 : Bool) (a b : Addr) : L2.It :=
  ⟨fun i H => ∃ (xs ys : List V) (x y : V), SqK k1 K H a xs ∧ SqK k2 K H b ys ∧ xs[i]? = some x ∧ ys[i]? = some y,
    fun i H v H' => ∃ T x y, v = .ref T ∧ H T = none ∧ H' = upd H T (.tup [x, y]) ∧ (∀ xs, SqK k1 K H a xs → xs[i]? = some x) ∧ ∀ ys, SqK k2 K H b ys → ys[i]? = some y,
    fun i H => ∃ xs ys : List V, SqK k1 K H a xs ∧ SqK k2 K H b ys ∧ (xs.length = i ∧ i ≤ ys.length ∨ ys.length = i ∧ i ≤ xs.length)⟩
def ItE (K : PySem.W.Frag) (k : Bool) (a : Addr) : L2.It :=
  ⟨fun i H => ∃ (xs : List V) (x : V), SqK k K H a xs ∧ xs[i]? = some x,
    fun i H v H' => ∃ T x, v = .ref T ∧ H T = none ∧ H' = upd H T (.tup [.int (i : Nat), x]) ∧ (∀ xs, SqK k K H a xs → xs[i]? = some x),
    fun i H => ∃ xs : List V, SqK k K H a xs ∧ xs.length = i⟩
theorem zsep {z TI TO i1 i2 a b : Addr} (D : ZipApart z TI TO i1 i2 a b) : ZipSep2 z TI TO i1 i2 [i1, a] [i2, b] where
  TIz := D.TIz
  TOz := D.TOz
  TITO := D.TITO
  TIi1 := D.TIi1
  mem1 := by simp
  zf1 := by simp; exact ⟨D.i1z.symm, D.l1z.symm⟩
  Tf1 := by simp; exact ⟨D.TOi1, D.l1TO.symm⟩
  TIi2 := D.TIi2
  mem2 := by simp
  zf2 := by simp; exact ⟨D.i2z.symm, D.l2z.symm⟩
  Tf2 := by simp; exact ⟨D.TOi2, D.l2TO.symm⟩
  sep1_2 := by simp; exact ⟨D.i12, D.l2i1.symm⟩
  sep2_1 := by simp; exact ⟨D.i12.symm, D.l1i2.symm⟩
theorem turn_z {P : Program} {w : World} {K : PySem.W.Frag} {elts : List Expr} {kk : Nat} {tpos : Pos} {k1 k2 : Bool} {a b z TI TO i1 i2 : Addr} (D : ZipApart z TI TO i1 i2 a b) :
    Turn P w K (.Tuple elts kk tpos) (ItZ K k1 k2 a b) [z, TI, TO, i1, i2] z (fun i h => IsZip h z TI TO .none ∧ IsTupOf2 h TI (.ref i1) (.ref i2) ∧ (∃ x y, IsTupOf2 h TO x y) ∧ ItK k1 h i1 a i ∧ ItK k2 h i2 b i) where
  mem := by simp
  obj := fun i h st c hc => by
    obtain ⟨hz, hTI, ⟨x, y, hTO⟩, h1, h2⟩ := st
    have e' : c = z ∨ c = TI ∨ c = TO ∨ c = i1 ∨ c = i2 := by simpa using hc
    rcases e' with q | q | q | q | q
    · rw [q]; exact ⟨_, hz, fun v q => nomatch q⟩
    · rw [q]; exact ⟨_, hTI, fun v q => nomatch q⟩
    · rw [q]; exact ⟨_, hTO, fun v q => nomatch q⟩
    · rw [q]; exact h1.obj
    · rw [q]; exact h2.obj
  keep := fun i h h' st k => by
    obtain ⟨hz, hTI, ⟨x, y, hTO⟩, h1, h2⟩ := st
    exact ⟨k z (by simp) _ hz, k TI (by simp) _ hTI, ⟨x, y, k TO (by simp) _ hTO⟩, h1.at fun o q => k i1 (by simp) o q, h2.at fun o q => k i2 (by simp) o q⟩
  item := by
    intro X hP hw hK hc i pins s σ H E I hf st hg
    subst hP hw hK
    obtain ⟨hz, hTI, ⟨x0, y0, hTO⟩, h1, h2⟩ := st
    obtain ⟨xs, ys, x, y, hqx, hqy, hx, hy⟩ := hg
    obtain ⟨its, rv, p, _⟩ := inv_k I hqx
    obtain ⟨its2, rv2, p2, _⟩ := inv_k I hqy
    obtain ⟨u, hu, ru⟩ := rv.get hx
    obtain ⟨u2, hu2, ru2⟩ := rv2.get hy
    have hzl : z < s.heap.objs.size := Heap.lt_size hz
    have hd : X.A.in1.handled = none := I.ok.hd hc
    have li : i < its.toArray.size := by rw [List.size_toArray]; exact (List.getElem?_eq_some_iff.mp hu).1
    have li2 : i < its2.toArray.size := by rw [List.size_toArray]; exact (List.getElem?_eq_some_iff.mp hu2).1
    have D1 : Draws X.prog X.w X.A.in1 i1 [i1, a] its.toArray.size (fun i v => its.toArray[i]? = some v) (fun i h => ItK k1 h i1 a i ∧ ObK k1 h a its.toArray) := draws_k k1 hd i1 a D.l1i1 its.toArray
    have D2 : Draws X.prog X.w X.A.in1 i2 [i2, b] its2.toArray.size (fun i v => its2.toArray[i]? = some v) (fun i h => ItK k2 h i2 b i ∧ ObK k2 h b its2.toArray) := draws_k k2 hd i2 b D.l2i2 its2.toArray
    refine wpAny_pyNext_zipD2_item (zsep D) D1 D2 hz hTI hTO ⟨h1, p⟩ ⟨h2, p2⟩ li li2 fun v1 v2 h' tk e1 e2 z' TO' h1' h2' hT hsz hk => ?_
    have ev1 : v1 = u := by
      have q : its[i]? = some v1 := by simpa using e1
      rw [hu] at q; exact (Option.some.inj q).symm
    have ev2 : v2 = u2 := by
      have q : its2[i]? = some v2 := by simpa using e2
      rw [hu2] at q; exact (Option.some.inj q).symm
    subst ev1 ev2
    refine ⟨_, rfl, wpAny_letOwnedTupleGo_zip (s := { s with heap := h', toks := tk }) z' fun h'' z'' sb => ?_⟩
    have hT2 : h''.get? s.heap.objs.size = some { cls := .type "tuple", data := .seq #[v1, v2] } := (sb.2 _ (Nat.ne_of_gt hzl)).trans hT
    have new : ObjOk X.prog X.w (upd H s.heap.objs.size (.tup [x, y])) h'' s.heap.objs.size (.tup [x, y]) :=
      ⟨by show 2 ≤ sizeLine; decide, [v1, v2], .cons ru (.cons ru2 .nil), ⟨_, hT2, rfl, _, rfl⟩⟩
    have I1 : Inv X pins σ (upd H s.heap.objs.size (.tup [x, y])) { s with heap := h'', toks := tk } :=
      I.turnedNew (t' := tk) (ch := [z, TI, TO, i1, i2]) (fun c o hb q => (sb.2 c (fun q' => hb (by simp [q']))).trans (hk c o (fun q' => hb (by simp [q'])) (fun q' => hb (by simp [q'])) (fun q' => hb (by simp [q'])) (fun q' => hb (by simp [q'])) q)) hf (Nat.le_refl _) new
    refine ⟨.ref s.heap.objs.size, _, I1, rfl, ⟨_, x, y, rfl, I.hok.fresh (Nat.le_refl _), rfl, fun l hl => by rw [inv_k_inj I hl hqx]; exact hx, fun l hl => by rw [inv_k_inj I hl hqy]; exact hy⟩, ⟨z'', ?_, ⟨v1, v2, ?_⟩, ?_, ?_⟩, fun c hcm => ?_⟩
    · exact (sb.2 _ D.TIz).trans (hk _ _ D.TIz D.TITO D.TIi1 D.TIi2 hTI)
    · exact (sb.2 _ D.TOz).trans TO'
    · exact h1'.1.at fun o q => (sb.2 _ D.i1z).trans q
    · exact h2'.1.at fun o q => (sb.2 _ D.i2z).trans q
    · have hlt : c < s.heap.objs.size := by
        have e' : c = z ∨ c = TI ∨ c = TO ∨ c = i1 ∨ c = i2 := by simpa using hcm
        rcases e' with q | q | q | q | q
        · rw [q]; exact hzl
        · rw [q]; exact Heap.lt_size hTI
        · rw [q]; exact Heap.lt_size hTO
        · rw [q]; obtain ⟨_, e1, _⟩ := h1.obj; exact Heap.lt_size e1
        · rw [q]; obtain ⟨_, e2, _⟩ := h2.obj; exact Heap.lt_size e2
      rw [upd_ne (Nat.ne_of_lt hlt)]
      exact (hf c hcm).1
  done := by
    intro X hP hw hK hc i pins s σ H E I hf st hg
    subst hP hw hK
    obtain ⟨hz, hTI, ⟨x0, y0, hTO⟩, h1, h2⟩ := st
    obtain ⟨xs, ys, hqx, hqy, hend⟩ := hg
    obtain ⟨its, rv, p, _⟩ := inv_k I hqx
    obtain ⟨its2, rv2, p2, _⟩ := inv_k I hqy
    have l1 := rv.length
    have l2 := rv2.length
    have hd : X.A.in1.handled = none := I.ok.hd hc
    have D1 : Draws X.prog X.w X.A.in1 i1 [i1, a] its.toArray.size (fun i v => its.toArray[i]? = some v) (fun i h => ItK k1 h i1 a i ∧ ObK k1 h a its.toArray) := draws_k k1 hd i1 a D.l1i1 its.toArray
    have D2 : Draws X.prog X.w X.A.in1 i2 [i2, b] its2.toArray.size (fun i v => its2.toArray[i]? = some v) (fun i h => ItK k2 h i2 b i ∧ ObK k2 h b its2.toArray) := draws_k k2 hd i2 b D.l2i2 its2.toArray
    refine wpAny_pyNext_zipD2_end (zsep D) D1 D2 hz hTI hTO ⟨h1, p⟩ ⟨h2, p2⟩ (by simp; omega) (by simp; omega) (by simp; omega) fun h' tk hk => ⟨rfl, I.turnedL (t' := tk) (ch := [z, TI, TO, i1, i2]) (fun c o hb q =>
      hk c o (fun q' => hb (by simp [q'])) (fun q' => hb (by simp [q'])) (fun q' => hb (by simp [q'])) (fun q' => hb (by simp [q'])) q) hf⟩
  self := fun A i s Q E st h => wpAny_pyIter_zip st.1 h
theorem turn_e {P : Program} {w : World} {K : PySem.W.Frag} {elts : List Expr} {kk : Nat} {tpos : Pos} {k : Bool} {a e it : Addr} (hne : e ≠ it) (hae : a ≠ e) (hai : a ≠ it) :
    Turn P w K (.Tuple elts kk tpos) (ItE K k a) [e, it] e (fun i h => (∃ old, IsEnum h e it ((i : Nat) : Int) old) ∧ ItK k h it a i) where
  mem := by simp
  obj := fun i h st b hb => by
    obtain ⟨⟨old, he⟩, hi⟩ := st
    have e' : b = e ∨ b = it := by simpa using hb
    rcases e' with z | z
    · rw [z]; exact ⟨_, he, fun v q => nomatch q⟩
    · rw [z]; exact hi.obj
  keep := fun i h h' st k => let ⟨⟨old, he⟩, hi⟩ := st; ⟨⟨old, k e (by simp) _ he⟩, hi.at fun o q => k it (by simp) o q⟩
  item := by
    intro X hP hw hK hc i pins s σ H E I hf st hg
    subst hP hw hK
    obtain ⟨⟨old, he⟩, hit⟩ := st
    obtain ⟨xs, x, hq, hx⟩ := hg
    obtain ⟨its, rv, p, hz⟩ := inv_k I hq
    obtain ⟨u, hu, ru⟩ := rv.get hx
    have hel : e < s.heap.objs.size := Heap.lt_size he
    have hil : it < s.heap.objs.size := by obtain ⟨_, q, _⟩ := hit.obj; exact Heap.lt_size q
    have hd : X.A.in1.handled = none := I.ok.hd hc
    have li : i < its.toArray.size := by rw [List.size_toArray]; exact (List.getElem?_eq_some_iff.mp hu).1
    have D1 : Draws X.prog X.w X.A.in1 it [it, a] its.toArray.size (fun i v => its.toArray[i]? = some v) (fun i h => ItK k h it a i ∧ ObK k h a its.toArray) := draws_k k hd it a hai its.toArray
    refine wpAny_pyNext_enum_itemC D1 he ⟨hit, p⟩ li hne (by simp; exact ⟨hne, hae.symm⟩) fun v h' tk ev ho st' hT hsz hk => ?_
    have ev1 : v = u := by
      have q : its[i]? = some v := by simpa using ev
      rw [hu] at q; exact (Option.some.inj q).symm
    subst ev1
    refine ⟨_, rfl, wpAny_letOwnedTupleGo_enum (s := { s with heap := h', toks := tk + 1 }) ho fun h'' he' sb => ?_⟩
    have hT2 : h''.get? s.heap.objs.size = some { cls := .type "tuple", data := .seq #[.int i tk, v] } := (sb.2 _ (Nat.ne_of_gt hel)).trans hT
    have new : ObjOk X.prog X.w (upd H s.heap.objs.size (.tup [.int (i : Nat), x])) h'' s.heap.objs.size (.tup [.int (i : Nat), x]) :=
      ⟨by show 2 ≤ sizeLine; decide, [.int i tk, v], .cons ⟨_, rfl⟩ (.cons ru .nil), ⟨_, hT2, rfl, _, rfl⟩⟩
    have I1 : Inv X pins σ (upd H s.heap.objs.size (.tup [.int (i : Nat), x])) { s with heap := h'', toks := tk + 1 } :=
      I.turnedNew (ch := [e, it]) (fun b ob hb q => (sb.2 b (fun z => hb (by simp [z]))).trans (hk b ob (fun z => hb (by simp [z])) (fun z => hb (by simp [z])) q)) hf (Nat.le_refl _) new
    refine ⟨.ref s.heap.objs.size, _, I1, rfl, ⟨_, x, rfl, I.hok.fresh (Nat.le_refl _), rfl, fun ys hy => by rw [inv_k_inj I hy hq]; exact hx⟩, ⟨⟨v, ?_⟩, st'.1.at fun o q => (sb.2 it (Ne.symm hne)).trans q⟩, fun b hb => ?_⟩
    · have e1 : ((i + 1 : Nat) : Int) = (i : Int) + 1 := by omega
      rw [e1]; exact he'
    · have hb' : b < s.heap.objs.size := by
        have e' : b = e ∨ b = it := by simpa using hb
        rcases e' with z | z
        · rw [z]; exact hel
        · rw [z]; exact hil
      rw [upd_ne (Nat.ne_of_lt hb')]
      exact (hf b hb).1
  done := by
    intro X hP hw hK hc i pins s σ H E I hf st hg
    subst hP hw hK
    obtain ⟨⟨old, he⟩, hit⟩ := st
    obtain ⟨xs, hq, hx⟩ := hg
    obtain ⟨its, rv, p, hz⟩ := inv_k I hq
    obtain ⟨f0, f1, f2, f3, f4, f5⟩ := hf it (by simp)
    have hl := rv.length
    have hd : X.A.in1.handled = none := I.ok.hd hc
    have D1 : Draws X.prog X.w X.A.in1 it [it, a] its.toArray.size (fun i v => its.toArray[i]? = some v) (fun i h => ItK k h it a i ∧ ObK k h a its.toArray) := draws_k k hd it a hai its.toArray
    have hn : its.toArray.size = i := by simp; omega
    exact wpAny_pyNext_enum_endD D1 he ⟨by rw [hn]; exact hit, p⟩ fun h' eb => ⟨rfl, I.turned (t' := s.toks) (fun b o hb q => eb b o hb q) f0 f1 f3 f4 f5⟩
  self := fun A i s Q E st h => let ⟨⟨_, he⟩, _⟩ := st; wpAny_pyIter_enum he h
/-- zip(a, b), enumerate(a) of lists and tuples -/
def iZp (K : PySem.W.Frag) (ta : TA) : TI := fun σ H R => ta σ H fun vs H1 => ∃ k1 k2 a b xs ys, vs = [.ref a, .ref b] ∧ SqK k1 K H1 a xs ∧ SqK k2 K H1 b ys ∧ R (ItZ K k1 k2 a b) H1
def iEn (K : PySem.W.Frag) (ta : TA) : TI := fun σ H R => ta σ H fun vs H1 => ∃ k a xs, vs = [.ref a] ∧ SqK k K H1 a xs ∧ R (ItE K k a) H1
theorem pi_zp {X : Cx} {e e2 : Expr} {ta : TA} {p pos tpos : Pos} {elts : List Expr} {kk : Nat} (hg : Gl X "zip") (hm : X.mg "zip" = none) (ha : PA X [e, e2] ta)
    (hs : starEach [e, e2] X.env = (false, eval e X.env) :: starEach [e2] X.env := by rfl) (hpl : (backTo pos (starEach [e2] X.env)).any (·.1) = false := by rfl) :
    PI X (.Tuple elts kk tpos) (.Call (.Name "zip" p) [e, e2] [] pos) (iZp X.K ta) := by
  refine ⟨fun pins s σ H R I h => ?_⟩
  refine Call_ (ld_blt I hg hm PyProof.Rows.boot_zip (PyProof.Rows.callWith_type1 (thn (ha.run pos pins s σ H _ I h) fun us s1 ⟨vs, H1, I1, r1, q1⟩ => ?_) hs hpl))
  obtain ⟨k1, k2, a, b, xs, ys, ex, hqx, hqy, q⟩ := q1
  subst ex
  cases r1 with
  | cons r rr =>
    cases rr with
    | cons r' rr =>
      cases rr
      cases r
      cases r'
      obtain ⟨its, rv, p1, la⟩ := inv_k I1 hqx
      obtain ⟨its2, rv2, p2, lb⟩ := inv_k I1 hqy
      refine zip_begins2 (begins_k k1 a its.toArray) (begins_k k2 b its2.toArray) p1 p2 fun h' hz hTI hTO h1 h2 hsz hk => wpAny_pyIter_zip hz ?_
      have I2 : Inv X pins σ H1 { s1 with heap := h' } := I1.kept (t' := s1.toks) hk
      refine ⟨s1.heap.objs.size + 4, [s1.heap.objs.size + 4, s1.heap.objs.size + 2, s1.heap.objs.size + 3, s1.heap.objs.size, s1.heap.objs.size + 1], _, _, H1, rfl, I2, turn_z (k1 := k1) (k2 := k2) (PySem.W.ktu_apart s1.heap.objs.size a b la lb), ⟨hz, hTI, ⟨_, _, hTO⟩, itK_new h1, itK_new h2⟩, fun c hcm => ?_, q⟩
      have e' : c = s1.heap.objs.size + 4 ∨ c = s1.heap.objs.size + 2 ∨ c = s1.heap.objs.size + 3 ∨ c = s1.heap.objs.size ∨ c = s1.heap.objs.size + 1 := by simpa using hcm
      have hle : s1.heap.objs.size ≤ c := by
        rcases e' with z | z | z | z | z
        · rw [z]; exact Nat.le_add_right _ _
        · rw [z]; exact Nat.le_add_right _ _
        · rw [z]; exact Nat.le_add_right _ _
        · rw [z]; exact Nat.le_refl _
        · rw [z]; exact Nat.le_add_right _ _
      exact I1.fpOk hle (I1.hok.fresh hle)
theorem pi_en {X : Cx} {e : Expr} {ta : TA} {p pos tpos : Pos} {elts : List Expr} {kk : Nat} (hg : Gl X "enumerate") (hm : X.mg "enumerate" = none) (ha : PA X [e] ta) (hs : starEach [e] X.env = [(false, eval e X.env)] := by rfl) :
    PI X (.Tuple elts kk tpos) (.Call (.Name "enumerate" p) [e] [] pos) (iEn X.K ta) := by
  refine ⟨fun pins s σ H R I h => ?_⟩
  refine Call_ (ld_blt I hg hm boot_enumerate (PyProof.Rows.callWith_type1 (thn (ha.run pos pins s σ H _ I h) fun us s1 ⟨vs, H1, I1, r1, q1⟩ => ?_) hs rfl))
  obtain ⟨k, a, xs, ex, hq, q⟩ := q1
  subst ex
  cases r1 with
  | cons r rr =>
    cases rr
    cases r
    obtain ⟨its, rv, p', la⟩ := inv_k I1 hq
    refine enum_begins1 (begins_k k a its.toArray) p' fun h' he hit hsz hk => wpAny_pyIter_enum he ?_
    have I2 : Inv X pins σ H1 { s1 with heap := h' } := I1.kept (t' := s1.toks) hk
    refine ⟨s1.heap.objs.size + 1, [s1.heap.objs.size + 1, s1.heap.objs.size], _, _, H1, rfl, I2, turn_e (k := k) (Nat.succ_ne_self _) (Nat.ne_of_lt (Nat.lt_succ_of_lt la)) (Nat.ne_of_lt la), ⟨⟨.none, he⟩, itK_new hit⟩, fun b hb => ?_, q⟩
    have e' : b = s1.heap.objs.size + 1 ∨ b = s1.heap.objs.size := by simpa using hb
    have hle : s1.heap.objs.size ≤ b := by
      rcases e' with z | z
      · rw [z]; exact Nat.le_add_right _ _
      · rw [z]; exact Nat.le_refl _
    exact I1.fpOk hle (I1.hok.fresh hle)
end Dl

set_option Elab.async false
set_option linter.all false
set_option maxRecDepth 100000
set_option maxHeartbeats 4000000
set_option autoImplicit false
/-! Fn: defs by their promises over data. -/
namespace Dl
open PySem L2 Evl PyProof.Rows
/-- a def of the module that stands under x and keeps sp -/
structure Df (P : Program) (w : World) (K : PySem.W.Frag) (mg : Str → Option Value) (base : Heap) (x : Str) (k : Nat) (ps : List Str) (sp : Sp) : Prop where
  ex : ∃ f fd, FnOk P w K mg base CX0 k f fd ps sp ∧ mg x = some (.ref f) ∧ PySem.W.keepIn K (.ref f) = true ∧ Binds K fd ps []
/-- a method m of the class at C; a property; an __init__ -/
structure Dm (P : Program) (w : World) (K : PySem.W.Frag) (mg : Str → Option Value) (base : Heap) (C : Addr) (m : Str) (k : Nat) (ps : List Str) (sp : Sp) : Prop where
  ex : ∃ f fd, FnOk P w K mg base CX0 k f fd ps sp ∧ Cls K C ∧ Meth K C m f ∧ Binds K fd ps []
structure Dpr (P : Program) (w : World) (K : PySem.W.Frag) (mg : Str → Option Value) (base : Heap) (C : Addr) (m : Str) (k : Nat) (ps : List Str) (sp : Sp) : Prop where
  ex : ∃ f p fd, FnOk P w K mg base CX0 k f fd ps sp ∧ Cls K C ∧ PropOf K C m p f ∧ Binds K fd ps []
structure Di (P : Program) (w : World) (K : PySem.W.Frag) (mg : Str → Option Value) (base : Heap) (x : Str) (C : Addr) (k : Nat) (ps : List Str) (sp : Sp) : Prop where
  ex : ∃ f fd, FnOk P w K mg base CX0 k f fd ps sp ∧ mg x = some (.ref C) ∧ Mk K C f ∧ Binds K fd ps []
section
variable {X : Cx} {k : Nat} {C : Addr} {ps : List Str} {sp : Sp} {x m : Str} {p pos apos : Pos} {e o : Expr} {es : List Expr} {ta : TE} {t : TA}
theorem pe_callD (D : Df X.prog X.w X.K X.mg X.base x k ps sp) (hr : Room k X.A) (ha : PA X (e :: es) t) (hg : Gl X x := by rfl) (hdb : (x == ("__debug__" : Str)) = false := by decide)
    (he : starEach (e :: es) X.env = (false, eval e X.env) :: starEach es X.env := by rfl) (hpl : (backTo pos (starEach es X.env)).any (·.1) = false := by rfl) : PE X (.Call (.Name x p) (e :: es) [] pos) (tCall sp [] E0 t) := by
  obtain ⟨f, fd, F, hm, hk, hb⟩ := D.ex
  exact pe_call F hr hg hm hk hb .nil pass0 ha hdb he hpl
theorem pe_call0D (D : Df X.prog X.w X.K X.mg X.base x k ps sp) (hr : Room k X.A) (hg : Gl X x := by rfl) (hdb : (x == ("__debug__" : Str)) = false := by decide) : PE X (.Call (.Name x p) [] [] pos) (tCall sp [] E0 tNil) := by
  obtain ⟨f, fd, F, hm, hk, hb⟩ := D.ex
  exact pe_call0 F hr hg hm hk hb .nil pass0 hdb
theorem pe_methD {pl : Sem Bool} (D : Dm X.prog X.w X.K X.mg X.base C m k ps sp) (hr : Room k X.A) (he : PE X o ta) (ha : PA X (e :: es) t)
    (hst : starEach (e :: es) X.env = (false, eval e X.env) :: starEach es X.env := by rfl) (hpl : (backTo pos (starEach es X.env)).any (·.1) = false := by rfl)
    (ht : eval (.Call (.Attribute o m apos) (e :: es) [] pos) X.env = (do
      let ov ← eval o X.env
      standAt apos.atName
      let (f, first) ← holding [ov] (getMethod ov m pl)
      callWith pos f first (backTo pos (starEach (e :: es) X.env)) (backToKw pos (keywordEach [] X.env))) := by rfl) :
    PE X (.Call (.Attribute o m apos) (e :: es) [] pos) (tMeth C m sp [] E0 ta t) := by
  obtain ⟨f, fd, F, c, hm, hb⟩ := D.ex
  exact pe_meth he c hm F hr hb .nil pass0 ha hst hpl ht
theorem pe_meth0D {pl : Sem Bool} (D : Dm X.prog X.w X.K X.mg X.base C m k ps sp) (hr : Room k X.A) (he : PE X o ta)
    (ht : eval (.Call (.Attribute o m apos) [] [] pos) X.env = (do
      let ov ← eval o X.env
      standAt apos.atName
      let (f, first) ← holding [ov] (getMethod ov m pl)
      callWith pos f first (backTo pos (starEach [] X.env)) (backToKw pos (keywordEach [] X.env))) := by rfl) :
    PE X (.Call (.Attribute o m apos) [] [] pos) (tMeth C m sp [] E0 ta tNil) := by
  obtain ⟨f, fd, F, c, hm, hb⟩ := D.ex
  exact pe_meth0 he c hm F hr hb .nil pass0 ht
theorem pe_propD (D : Dpr X.prog X.w X.K X.mg X.base C m k ps sp) (hr : Room (k + 1) X.A) (he : PE X e ta)
    (hab : attributeBase e m X.env (eval e X.env) = eval e X.env := by rfl) : PE X (.Attribute e m pos) (tProp C sp [] E0 ta) := by
  obtain ⟨f, q, fd, F, c, hm, hb⟩ := D.ex
  exact pe_prop he c hm F hr hb .nil pass0 hab
theorem pe_makeD (D : Di X.prog X.w X.K X.mg X.base x C k ps sp) (hr : Room (k + 1) X.A) (ha : PA X (e :: es) t) (hg : Gl X x := by rfl) (hdb : (x == ("__debug__" : Str)) = false := by decide)
    (he : starEach (e :: es) X.env = (false, eval e X.env) :: starEach es X.env := by rfl) (hpl : (backTo pos (starEach es X.env)).any (·.1) = false := by rfl) : PE X (.Call (.Name x p) (e :: es) [] pos) (tMake C sp [] E0 t) := by
  obtain ⟨f, fd, F, hm, hk, hb⟩ := D.ex
  exact pe_make hk F hr hg hm hb .nil pass0 ha hdb he hpl
theorem pe_make0D (D : Di X.prog X.w X.K X.mg X.base x C k ps sp) (hr : Room (k + 1) X.A) (hg : Gl X x := by rfl) (hdb : (x == ("__debug__" : Str)) = false := by decide) : PE X (.Call (.Name x p) [] [] pos) (tMake C sp [] E0 tNil) := by
  obtain ⟨f, fd, F, hm, hk, hb⟩ := D.ex
  exact pe_make0 hk F hr hg hm hb .nil pass0 hdb
/-- a constant of the module -/
def Cst (mg : Str → Option Value) (x : Str) (v : V) : Prop := ∃ u, mg x = some u ∧ RelV v u
theorem pe_cst {v : V} (h : Cst X.mg x v) (hg : Gl X x := by rfl) (hd : (x == ("__debug__" : Str)) = false := by decide) : PE X (.Name x pos) (tC v) := by
  obtain ⟨u, h1, h2⟩ := h
  exact pe_glob hg h1 h2 hd
theorem pe_fldD {f : Str} (he : PE X e ta) (hb : attributeBase e f X.env (eval e X.env) = eval e X.env := by rfl) : PE X (.Attribute e f pos) (tFld X.K ta f) := pe_fld he hb
theorem loc {sc : Scope} {x : Str} (h : sc.names.lookup x = some .local ∨ sc.names.lookup x = some .cell) : Loc sc x := h
end
/-! ### promises over data -/
section
variable {K : PySem.W.Frag}
/-- R args result -/
def spD (K : PySem.W.Frag) (R : List D → D → Prop) : Sp := fun vs H Q _ => ∃ F ds d, Ex F H ∧ RepL K F ds vs ∧ R ds d ∧ ∀ v F' H', Up F H F' H' → Rep K F' d v → Q v H'
theorem ev_call {R : List D → D → Prop} {E : XK} {t : TA} {env env1 : List Slot} {ds : List D} {d : D} (ha : EvA K t env ds env1) (hR : R ds d) : Ev K (tCall (spD K R) [] E t) env d env1 := fun B F H σ s Q q =>
  ha B F H σ s _ fun vs F1 H1 s1 g1 r1 => ⟨F1, ds, d, s1.fh, by rw [List.append_nil]; exact r1, hR, fun v F' H' u rv => q v F' H' (s1.up u) (g1.trans (.of_up s1.bh u)) rv⟩
theorem lk_none {ns : List Str} {vs : List V} {m : Str} : ns.contains m = false → (ns.zip vs).lookup m = none := by
  induction ns generalizing vs with
  | nil => intro _; rfl
  | cons n ns ih =>
    intro h
    cases vs with
    | nil => rfl
    | cons v vs =>
      rw [List.contains_cons, Bool.or_eq_false_iff] at h
      rw [List.zip_cons_cons, List.lookup_cons, h.1]
      exact ih h.2
theorem ev_meth {R : List D → D → Prop} {E : XK} {C : Addr} {m : Str} {ta : TE} {t : TA} {env env1 env2 : List Slot} {ns : List Str} {os ds : List D} {d : D} (ho : Ev K ta env (.obj C ns os) env1) (hm : ns.contains m = false) (ha : EvA K t env1 ds env2) (hR : R (.obj C ns os :: ds) d) :
    Ev K (tMeth C m (spD K R) [] E ta t) env d env2 := fun B F H σ s Q q =>
  ho B F H σ s _ fun x F1 H1 s1 g1 r1 => by
    obtain ⟨a, dx, vs, rfl, h2, h3, h4⟩ := r1
    refine ⟨a, dx, _, rfl, s1.fh _ _ h2, lk_none hm, ha B F1 H1 σ s1 _ fun us F2 H2 s2 g2 r2 => ⟨F2, .obj C ns os :: ds, d, s2.fh, ?_, hR, fun v F' H' u rv => q v F' H' (s2.up u) ((g1.trans g2).trans (.of_up s2.bh u)) rv⟩⟩
    rw [List.append_nil]
    exact ⟨_, _, rfl, Rep.mono g2.f (.obj C ns os) _ ⟨a, dx, vs, rfl, h2, h3, h4⟩, r2⟩
theorem ev_prop {R : List D → D → Prop} {E : XK} {C : Addr} {ta : TE} {env env1 : List Slot} {ns : List Str} {os : List D} {d : D} (ho : Ev K ta env (.obj C ns os) env1) (hR : R [.obj C ns os] d) :
    Ev K (tProp C (spD K R) [] E ta) env d env1 := fun B F H σ s Q q =>
  ho B F H σ s _ fun x F1 H1 s1 g1 r1 => by
    obtain ⟨a, dx, vs, rfl, h2, h3, h4⟩ := r1
    exact ⟨a, dx, _, rfl, s1.fh _ _ h2, F1, [.obj C ns os], d, s1.fh, ⟨_, _, rfl, ⟨a, dx, vs, rfl, h2, h3, h4⟩, rfl⟩, hR, fun v F' H' u rv => q v F' H' (s1.up u) (g1.trans (.of_up s1.bh u)) rv⟩
/-- o.f -/
theorem lk_at {ns : List Str} {vs : List V} {os : List D} {H : Hp} {f : Str} {d : D} : RepL K H os vs → (ns.zip os).lookup f = some d → ∃ v, (ns.zip vs).lookup f = some v ∧ Rep K H d v := by
  induction ns generalizing vs os with
  | nil => intro _ h; cases h
  | cons n ns ih =>
    intro r h
    cases os with
    | nil => cases h
    | cons o os =>
      obtain ⟨w, ws, rfl, r1, r2⟩ := r
      rw [List.zip_cons_cons, List.lookup_cons] at h ⊢
      cases hb : f == n with
      | true =>
        rw [hb] at h
        cases h
        exact ⟨w, rfl, r1⟩
      | false =>
        rw [hb] at h
        exact ih r2 h
theorem ev_fld {C : Addr} {f : Str} {ta : TE} {env env1 : List Slot} {ns : List Str} {os : List D} {d : D} (c : Cls K C) (hn : NoAttr K C f) (ho : Ev K ta env (.obj C ns os) env1) (hf : (ns.zip os).lookup f = some d) : Ev K (tFld K ta f) env d env1 := fun B F H σ s Q q =>
  ho B F H σ s _ fun x F1 H1 s1 g1 r1 => by
    obtain ⟨a, dx, vs, rfl, h2, h3, h4⟩ := r1
    obtain ⟨v, hv, rv⟩ := lk_at h4 hf
    exact ⟨a, C, dx, _, v, rfl, s1.fh _ _ h2, c, hn, hv, q v F1 H1 s1 g1 rv⟩
theorem repS_start {F H : Hp} {ds : List D} {vs : List V} (n : Nat) (e : Ex F H) (r : RepL K F ds vs) : RepS K H F H (vs.map some ++ List.replicate n none) (ds.map Slot.val ++ List.replicate n .no) where
  bh := .refl _
  fh := e
  val := fun i d h => by
    by_cases hi : i < ds.length
    · rw [List.getElem?_append_left (by simpa using hi), List.getElem?_map] at h
      obtain ⟨d', hd', e'⟩ := Option.map_eq_some_iff.mp h
      cases e'
      obtain ⟨v, hv, rv⟩ := r.get hd'
      refine ⟨v, ?_, rv⟩
      rw [List.getElem?_append_left (by simp; rw [r.len]; exact hi), List.getElem?_map, hv]; rfl
    · rw [List.getElem?_append_right (by simp; omega)] at h
      have := List.getElem?_replicate (n := n) (a := Slot.no) (i := i - (ds.map Slot.val).length)
      rw [this] at h
      split at h <;> cases h
  own := fun i p o h => by
    by_cases hi : i < ds.length
    · rw [List.getElem?_append_left (by simpa using hi), List.getElem?_map] at h
      obtain ⟨d', hd', e'⟩ := Option.map_eq_some_iff.mp h
      cases e'
    · rw [List.getElem?_append_right (by simp; omega)] at h
      have := List.getElem?_replicate (n := n) (a := Slot.no) (i := i - (ds.map Slot.val).length)
      rw [this] at h
      split at h <;> cases h
  sep := fun i j p o u h _ => by
    exfalso
    by_cases hi : i < ds.length
    · rw [List.getElem?_append_left (by simpa using hi), List.getElem?_map] at h
      obtain ⟨d', hd', e'⟩ := Option.map_eq_some_iff.mp h
      cases e'
    · rw [List.getElem?_append_right (by simp; omega)] at h
      have := List.getElem?_replicate (n := n) (a := Slot.no) (i := i - (ds.map Slot.val).length)
      rw [this] at h
      split at h <;> cases h
  len := by simp; rw [r.len]; omega
/-- what a def's body owes -/
abbrev Ret (d : D) : Post := { n := fun _ => d = .non, r := fun d' _ => d' = d }
theorem body_D {R : List D → D → Prop} {t : TS} {N : List Str} (hb : ∀ ds d, R ds d → St K t (ds.map Slot.val ++ List.replicate (N.length - ds.length) .no) (Ret d)) :
    ∀ (vs : List V) (H : Hp) (Q : VK) (E : XK), spD K R vs H Q E → t { nx := fun _ H' => Q .non H', rt := Q } (L2.start N vs) H := fun vs H Q E ⟨F, ds, d, e, r, hR, q⟩ => by
  have hl : vs.length = ds.length := r.len
  unfold L2.start
  rw [hl]
  refine hb ds d hR H F H _ _ (repS_start _ e r) ⟨fun σ' F' H' env' r' g hd => ?_, fun v σ' F' H' env' d' r' g rv hd => ?_, fun _ _ _ _ _ _ h => h.elim, fun _ _ _ _ _ _ h => h.elim⟩
  · have hd : d = .non := hd
    subst hd
    exact q .non F' H' ⟨r'.bh, g.f, r'.fh, g.no⟩ rfl
  · have hd : d' = d := hd
    subst hd
    exact q v F' H' ⟨r'.bh, g.f, r'.fh, g.no⟩ rv
theorem spD_len {R : List D → D → Prop} {n : Nat} (h : ∀ ds d, R ds d → ds.length = n) : ∀ (vs : List V) (H : Hp) (Q : VK) (E : XK), spD K R vs H Q E → vs.length = n := fun vs H Q E ⟨F, ds, d, e, r, hR, q⟩ => by rw [r.len]; exact h ds d hR
/-! ### a def whose first argument is changed -/
/-- what the first argument holds ahead, the other arguments, the answer, what it holds behind -/
def spO (K : PySem.W.Frag) (R : OD → List D → D → OD → Prop) : Sp := fun vs H Q _ => ∃ F p o ds d o' ws, vs = .ref p :: ws ∧ Ex F H ∧ F p = none ∧ OwnAt K F H p o ∧ RepL K F ds ws ∧ R o ds d o' ∧
  ∀ v F' H', (∀ a u, a ≠ p → H a = some u → H' a = some u) → Ex F F' → Ex F' H' → (∀ q, F q = none → H q ≠ none → F' q = none) → OwnAt K F' H' p o' → Rep K F' d v → Q v H'
theorem RepS.putAny {B F H F' H' : Hp} {σ : L2.St} {env : List Slot} (r : RepS K B F H σ env) {i : Nat} {p : Addr} {o o' : OD} (e : env[i]? = some (.own p o)) (hk : ∀ a u, a ≠ p → H a = some u → H' a = some u) (hf : Ex F F') (hfh : Ex F' H') (hno : ∀ q, F q = none → H q ≠ none → F' q = none)
    (h : OwnAt K F' H' p o') : RepS K B F' H' σ (env.set i (.own p o')) := by
  obtain ⟨e1, e2, e3, e4⟩ := r.own i p o e
  have hl : i < env.length := (List.getElem?_eq_some_iff.mp e).1
  have old : ∀ {j : Nat} {q : Addr} {u : OD}, (env.set i (.own p o'))[j]? = some (Slot.own q u) → (j = i ∧ q = p ∧ u = o') ∨ (i ≠ j ∧ env[j]? = some (Slot.own q u)) := fun {j q u} e => by
    by_cases hj : i = j
    · subst hj
      rw [List.getElem?_set_self hl] at e
      injection e with e
      injection e with e1 e2
      exact .inl ⟨rfl, e1.symm, e2.symm⟩
    · rw [List.getElem?_set_ne hj] at e
      exact .inr ⟨hj, e⟩
  obtain ⟨w, hw⟩ := e4.some
  refine ⟨fun a u h => hk a u (fun z => by rw [z, e2] at h; cases h) (r.bh a u h), hfh, fun j d' q => ?_, fun j a v q => ?_, fun j k a v v' q1 q2 => ?_, by simpa using r.len⟩
  · by_cases hj : i = j
    · subst hj
      rw [List.getElem?_set_self hl] at q; cases q
    · rw [List.getElem?_set_ne hj] at q
      obtain ⟨v, h1, h2⟩ := r.val j d' q
      exact ⟨v, h1, h2.mono hf⟩
  · rcases old q with ⟨rfl, rfl, rfl⟩ | ⟨hj, q'⟩
    · exact ⟨e1, e2, hno _ e3 (by rw [hw]; simp), h⟩
    · obtain ⟨f1, f2, f3, f4⟩ := r.own j a v q'
      have ne : a ≠ p := fun z => hj (r.sep i j p o v e (z ▸ q'))
      obtain ⟨w', hw'⟩ := f4.some
      exact ⟨f1, f2, hno _ f3 (by rw [hw']; simp), f4.mono hf fun o ho => hk a o ne ho⟩
  · rcases old q1 with ⟨rfl, rfl, rfl⟩ | ⟨hj, q1'⟩
    · rcases old q2 with ⟨rfl, _, _⟩ | ⟨hk, q2'⟩
      · rfl
      · exact r.sep _ _ _ _ _ e q2'
    · rcases old q2 with ⟨rfl, rfl, rfl⟩ | ⟨hk, q2'⟩
      · exact r.sep _ _ _ _ _ q1' e
      · exact r.sep j k a v v' q1' q2'
theorem ev_callO {R : OD → List D → D → OD → Prop} {E : XK} {i : Nat} {p : Addr} {o o' : OD} {t : TA} {env env1 : List Slot} {ds : List D} {d : D} (h0 : env[i]? = some (.own p o)) (ha : EvA K t env ds env1) (h1 : env1[i]? = some (.own p o)) (hR : R o ds d o') :
    Ev K (tCall (spO K R) [] E (tCons (tVar i) t)) env d (env1.set i (.own p o')) := fun B F H σ s Q q =>
  ⟨.ref p, (s.own i p o h0).1, ha B F H σ s _ fun vs F1 H1 s1 g1 r1 => by
    obtain ⟨e1, e2, e3, e4⟩ := s1.own i p o h1
    refine ⟨F1, p, o, ds, d, o', vs, by rw [List.append_nil], s1.fh, e3, e4, r1, hR, fun v F' H' k1 k2 k3 k4 k5 rv => q v F' H' (s1.putAny h1 k1 k2 k3 k4 k5) (g1.trans ⟨k2, fun a hf hb => k4 a hf fun z => ?_⟩) rv⟩
    cases hB : B a with
    | none => exact hb hB
    | some u => rw [s1.bh a u hB] at z; cases z⟩
theorem body_O {R : OD → List D → D → OD → Prop} {t : TS} {N : List Str} (hb : ∀ p o ds d o', R o ds d o' → St K t (.own p o :: ds.map Slot.val ++ List.replicate (N.length - (ds.length + 1)) .no) { n := fun e => d = .non ∧ e[0]? = some (Slot.own p o'), r := fun d' e => d' = d ∧ e[0]? = some (Slot.own p o') }) :
    ∀ (vs : List V) (H : Hp) (Q : VK) (E : XK), spO K R vs H Q E → t { nx := fun _ H' => Q .non H', rt := Q } (L2.start N vs) H := fun vs H Q E ⟨F, p, o, ds, d, o', ws, ev, e, hp, ho, r, hR, q⟩ => by
  subst ev
  have hl : ws.length = ds.length := r.len
  unfold L2.start
  rw [List.length_cons, hl]
  let B : Hp := fun a => if a = p then none else H a
  have hB : ∀ a, a ≠ p → B a = H a := fun a h => if_neg h
  have hBp : B p = none := if_pos rfl
  have r0 := repS_start (K := K) (N.length - (ds.length + 1)) e r
  have start0 : RepS K B F H ((V.ref p :: ws).map some ++ List.replicate (N.length - (ds.length + 1)) none) (.own p o :: ds.map Slot.val ++ List.replicate (N.length - (ds.length + 1)) .no) := by
    refine ⟨fun a u h => ?_, e, fun i d' h => ?_, fun i a u h => ?_, fun i j a u v h1 h2 => ?_, by simp [hl]⟩
    · by_cases ha : a = p
      · subst ha; rw [hBp] at h; cases h
      · rw [hB a ha] at h; exact h
    · cases i with
      | zero => cases h
      | succ i => exact r0.val i d' h
    · cases i with
      | zero =>
        have h : some (Slot.own p o) = some (Slot.own a u) := h
        injection h with h
        injection h with h1 h2
        subst h1 h2
        exact ⟨rfl, hBp, hp, ho⟩
      | succ i => 
        obtain ⟨_, h2, _⟩ := r0.own i a u h
        obtain ⟨_, _, h3, h4⟩ := r0.own i a u h
        obtain ⟨w, hw⟩ := h4.some
        rw [hw] at h2; cases h2
    · have no : ∀ (i : Nat) (a : Addr) (u : OD), (ds.map Slot.val ++ List.replicate (N.length - (ds.length + 1)) Slot.no)[i]? = some (Slot.own a u) → False := fun i a u h => by
        obtain ⟨_, h2, _, h4⟩ := r0.own i a u h
        obtain ⟨w, hw⟩ := h4.some
        rw [hw] at h2; cases h2
      cases i with
      | zero =>
        cases j with
        | zero => rfl
        | succ j => exact (no j a v h2).elim
      | succ i => exact (no i a u h1).elim
  have fin : ∀ {v : V} {σ' : L2.St} {F' H' : Hp} {env' : List Slot}, RepS K B F' H' σ' env' → Gr B F F' → env'[0]? = some (Slot.own p o') → Rep K F' d v → Q v H' := fun {v σ' F' H' env'} r' g h0 rv => by
    obtain ⟨f1, f2, f3, f4⟩ := r'.own 0 p o' h0
    refine q v F' H' (fun a u ha h => r'.bh a u (by rw [hB a ha]; exact h)) g.f r'.fh (fun a hf hh => ?_) f4 rv
    by_cases ha : a = p
    · subst ha; exact f3
    · exact g.no a hf (by rw [hB a ha]; exact hh)
  refine hb p o ds d o' hR B F H _ _ start0 ⟨fun σ' F' H' env' r' g hd => ?_, fun v σ' F' H' env' d' r' g rv hd => ?_, fun _ _ _ _ _ _ h => h.elim, fun _ _ _ _ _ _ h => h.elim⟩
  · obtain ⟨hd, h0⟩ := hd
    subst hd
    exact fin r' g h0 rfl
  · obtain ⟨hd, h0⟩ := hd
    subst hd
    exact fin r' g h0 rv
end
end Dl

set_option Elab.async false
set_option linter.all false
set_option maxRecDepth 100000
set_option maxHeartbeats 4000000
set_option autoImplicit false
/-! Op: what the kind-free rules give, over data. -/
namespace Dl
open PySem L2 Evl StX PyProof.Rows
variable {K : PySem.W.Frag}
theorem sz_line {n : Nat} (h : n ≤ 1000000) : n ≤ sizeLine := Nat.le_trans h (by decide)
/-! ### + - * // % ** -/
theorem d_add {i j : Int} : R2D K (uAdd K) (.int i) (.int j) (.int (i + j)) := fun F H x y e hx hy Q q => .inl ⟨i, j, hx, hy, q _ F H (.refl e) rfl⟩
theorem d_addS {a b : Str} (h : a.length + b.length ≤ 1000000) : R2D K (uAdd K) (.str a) (.str b) (.str (a ++ b)) := fun F H x y e hx hy Q q => .inr (.inl ⟨a, b, hx, hy, sz_line h, q _ F H (.refl e) rfl⟩)
theorem d_addL {as bs : List D} (h : as.length + bs.length ≤ 100000) : R2D K (uAdd K) (.lst as) (.lst bs) (.lst (as ++ bs)) := fun F H x y e ⟨a, xs, hx, ha, ra⟩ ⟨b, ys, hy, hb, rb⟩ Q q =>
  .inr (.inr (.inl ⟨a, b, xs, ys, hx, hy, e _ _ ha, e _ _ hb, sz_of (by rw [ra.len, rb.len]; exact h), fun p hp => q _ _ _ (.new e hp) ⟨p, _, rfl, upd_same, (ra.append rb).mono (Up.new (o := .lst (xs ++ ys)) e hp).f⟩⟩))
theorem d_addT {as bs : List D} (h : as.length + bs.length ≤ 100000) : R2D K (uAdd K) (.tup as) (.tup bs) (.tup (as ++ bs)) := fun F H x y e ⟨a, xs, hx, ha, ra⟩ ⟨b, ys, hy, hb, rb⟩ Q q =>
  .inr (.inr (.inr ⟨a, b, xs, ys, hx, hy, ex_t e ha, ex_t e hb, sz_of (by rw [ra.len, rb.len]; exact h), fun h0 => q _ F H (.refl e) (by
      subst h0
      have : as = [] := List.eq_nil_of_length_eq_zero (by rw [← ra.len]; rfl)
      subst this
      exact ⟨b, ys, rfl, hb, rb⟩), fun _ h1 => q _ F H (.refl e) (by
      subst h1
      have : bs = [] := List.eq_nil_of_length_eq_zero (by rw [← rb.len]; rfl)
      subst this
      rw [List.append_nil]
      exact ⟨a, xs, rfl, ha, ra⟩), fun _ _ p hp => q _ _ _ (.new e hp) ⟨p, _, rfl, st_of upd_same, (ra.append rb).mono (Up.new (o := .tup (xs ++ ys)) e hp).f⟩⟩))
theorem d_sub {i j : Int} : R2D K uSub (.int i) (.int j) (.int (i - j)) := fun F H x y e hx hy Q q => ⟨i, j, hx, hy, q _ F H (.refl e) rfl⟩
theorem d_mul {i j : Int} (h : i.natAbs.log2 + j.natAbs.log2 < 1000000) : R2D K (uMul K) (.int i) (.int j) (.int (i * j)) := fun F H x y e hx hy Q q => .inl ⟨i, j, hx, hy, h, q _ F H (.refl e) rfl⟩
theorem d_div {i j : Int} (h : 0 < j) (h2 : j.natAbs.log2 < 9000) : R2D K uDiv (.int i) (.int j) (.int (i / j)) := fun F H x y e hx hy Q q => ⟨i, j, hx, hy, ⟨h, h2⟩, q _ F H (.refl e) rfl⟩
theorem d_mod {i j : Int} (h : 0 < j) : R2D K uMod (.int i) (.int j) (.int (i % j)) := fun F H x y e hx hy Q q => ⟨i, j, hx, hy, h, q _ F H (.refl e) rfl⟩
theorem d_pow {i j : Int} (h : 0 ≤ j) (h2 : (Builtin.Int.intBits i : Int) * j ≤ 2 ^ 27) : R2D K uPow (.int i) (.int j) (.int (i ^ j.toNat)) := fun F H x y e hx hy Q q => ⟨i, j, hx, hy, ⟨h, h2⟩, q _ F H (.refl e) rfl⟩
/-! ### comparisons -/
theorem d_lt {i j : Int} : R2D K uLt (.int i) (.int j) (.bl (decide (i < j))) := fun F H x y e hx hy Q q => ⟨i, j, hx, hy, q _ F H (.refl e) rfl⟩
theorem d_le {i j : Int} : R2D K uLe (.int i) (.int j) (.bl (decide (i ≤ j))) := fun F H x y e hx hy Q q => ⟨i, j, hx, hy, q _ F H (.refl e) rfl⟩
theorem d_gt {i j : Int} : R2D K uGt (.int i) (.int j) (.bl (decide (j < i))) := fun F H x y e hx hy Q q => ⟨i, j, hx, hy, q _ F H (.refl e) rfl⟩
theorem d_ge {i j : Int} : R2D K uGe (.int i) (.int j) (.bl (decide (j ≤ i))) := fun F H x y e hx hy Q q => ⟨i, j, hx, hy, q _ F H (.refl e) rfl⟩
theorem d_eqI {i j : Int} : R2D K (uEq K) (.int i) (.int j) (.bl (decide (i = j))) := fun F H x y e hx hy Q q => .inl (by
  rw [show x = .int i from hx, show y = .int j from hy]
  exact ⟨rfl, q _ F H (.refl e) (by simp [Rep])⟩)
theorem d_eqS {i j : Str} : R2D K (uEq K) (.str i) (.str j) (.bl (decide (i = j))) := fun F H x y e hx hy Q q => .inl (by
  rw [show x = .str i from hx, show y = .str j from hy]
  exact ⟨rfl, q _ F H (.refl e) (by simp [Rep])⟩)
theorem d_eqB {i j : Bool} : R2D K (uEq K) (.bl i) (.bl j) (.bl (decide (i = j))) := fun F H x y e hx hy Q q => .inl (by
  rw [show x = .bl i from hx, show y = .bl j from hy]
  exact ⟨rfl, q _ F H (.refl e) (by simp [Rep])⟩)
theorem d_neI {i j : Int} : R2D K (uNe K) (.int i) (.int j) (.bl (decide (i ≠ j))) := fun F H x y e hx hy Q q => .inl (by
  rw [show x = .int i from hx, show y = .int j from hy]
  exact ⟨rfl, q _ F H (.refl e) (by simp [Rep])⟩)
theorem d_neS {i j : Str} : R2D K (uNe K) (.str i) (.str j) (.bl (decide (i ≠ j))) := fun F H x y e hx hy Q q => .inl (by
  rw [show x = .str i from hx, show y = .str j from hy]
  exact ⟨rfl, q _ F H (.refl e) (by simp [Rep])⟩)
theorem d_neB {i j : Bool} : R2D K (uNe K) (.bl i) (.bl j) (.bl (decide (i ≠ j))) := fun F H x y e hx hy Q q => .inl (by
  rw [show x = .bl i from hx, show y = .bl j from hy]
  exact ⟨rfl, q _ F H (.refl e) (by simp [Rep])⟩)
/-! data at depth -/
mutual
def D.py : D → PyData
  | .bl b => .bool b | .int i => .int i | .str x => .str x | .tup ds => .tuple (D.pys ds) | .lst ds => .list (D.pys ds) | _ => .none
def D.pys : List D → List PyData
  | [] => []
  | d :: ds => d.py :: D.pys ds
end
mutual
def D.pure : D → Bool
  | .non => true | .bl _ => true | .int _ => true | .str _ => true | .tup ds => D.pures ds | .lst ds => D.pures ds | _ => false
def D.pures : List D → Bool
  | [] => true
  | d :: ds => d.pure && D.pures ds
end
mutual
theorem Rep.dp {F H : Hp} (e : Ex F H) : ∀ (d : D) (v : V), d.pure = true → Rep K F d v → Dp K H v d.py
  | .non, v, _, h => by cases (show v = V.non from h); exact .non
  | .bl b, v, _, h => by cases (show v = V.bl b from h); exact .bl _
  | .int b, v, _, h => by cases (show v = V.int b from h); exact .int _
  | .str b, v, _, h => by cases (show v = V.str b from h); exact .str _
  | .tup ds, v, p, ⟨a, vs, h1, h2, h3⟩ => by rw [h1]; exact .tup (ex_t e h2) (RepL.dp e ds vs p h3)
  | .lst ds, v, p, ⟨a, vs, h1, h2, h3⟩ => by rw [h1]; exact .lst (.inl (.inl (e _ _ h2))) (RepL.dp e ds vs p h3)
  | .scr _, _, p, _ => nomatch p
  | .obj _ _ _, _, p, _ => nomatch p
  | .dic _ _, _, p, _ => nomatch p
  | .ty _, _, p, _ => nomatch p
  | .adr _, _, p, _ => nomatch p
theorem RepL.dp {F H : Hp} (e : Ex F H) : ∀ (ds : List D) (vs : List V), D.pures ds = true → RepL K F ds vs → DpAll K H vs (D.pys ds)
  | [], vs, _, h => by cases (show vs = [] from h); exact .nil
  | d :: ds, vs, p, ⟨w, ws, h1, h2, h3⟩ => by
    have p : (d.pure && D.pures ds) = true := p
    have p := Bool.and_eq_true_iff.mp p
    rw [h1]; exact .cons (Rep.dp e d w p.1 h2) (RepL.dp e ds ws p.2 h3)
end
theorem d_eqD {a b : D} (pa : a.pure = true) (pb : b.pure = true) (sa : SeqAt.shaped a.py = true) (sb : SeqAt.shaped b.py = true) : R2D K (uEq K) a b (.bl (PyData.eqv a.py b.py)) := fun F H x y e hx hy Q q =>
  .inr (.inl ⟨a.py, b.py, Rep.dp e a x pa hx, Rep.dp e b y pb hy, sa, sb, q _ F H (.refl e) rfl⟩)
theorem d_neD {a b : D} (pa : a.pure = true) (pb : b.pure = true) (sa : SeqAt.shaped a.py = true) (sb : SeqAt.shaped b.py = true) : R2D K (uNe K) a b (.bl (!PyData.eqv a.py b.py)) := fun F H x y e hx hy Q q =>
  .inr (.inl ⟨a.py, b.py, Rep.dp e a x pa hx, Rep.dp e b y pb hy, sa, sb, q _ F H (.refl e) rfl⟩)
/-- is -/
def D.isN : D → Bool
  | .non => true
  | _ => false
theorem isN_of {F : Hp} {a : D} {x : V} (hx : Rep K F a x) : decide (x = V.non) = a.isN := by
  cases a with
  | non => cases (show x = .non from hx); rfl
  | bl b => cases (show x = .bl b from hx); rfl
  | int b => cases (show x = .int b from hx); rfl
  | str b => cases (show x = .str b from hx); rfl
  | tup ds => obtain ⟨a, vs, rfl, _⟩ := hx; rfl
  | lst ds => obtain ⟨a, vs, rfl, _⟩ := hx; rfl
  | scr ds => obtain ⟨a, rfl, _⟩ := hx; rfl
  | obj _ _ _ => obtain ⟨a, _, _, rfl, _⟩ := hx; rfl
  | dic _ _ => obtain ⟨a, _, rfl, _⟩ := hx; rfl
  | ty b => cases (show x = .ty b from hx); rfl
  | adr b => cases (show x = .ref b from hx); rfl
theorem d_isN {a : D} : R2D K uIs a .non (.bl a.isN) := fun F H x y e hx hy Q q => .inl ⟨hy, by
  rw [isN_of hx]
  exact q _ F H (.refl e) rfl⟩
theorem d_ntN {a : D} : R2D K uNt a .non (.bl !a.isN) := fun F H x y e hx hy Q q => .inl ⟨hy, by
  rw [isN_of hx]
  exact q _ F H (.refl e) rfl⟩
theorem d_ntB {a b : Bool} : R2D K uNt (.bl a) (.bl b) (.bl (!decide (a = b))) := fun F H x y e hx hy Q q => .inr ⟨a, b, hx, hy, q _ F H (.refl e) rfl⟩
theorem d_isB {a b : Bool} : R2D K uIs (.bl a) (.bl b) (.bl (decide (a = b))) := fun F H x y e hx hy Q q => .inr ⟨a, b, hx, hy, q _ F H (.refl e) rfl⟩
theorem d_neg {i : Int} : R1D K (rU fun i => .int (-i)) (.int i) (.int (-i)) := fun F H x e hx Q q => ⟨i, hx, q _ F H (.refl e) rfl⟩
/-! ### in -/
theorem inV_str {p : Str} : ∀ {ns : List Str}, inV (.str p) (ns.map V.str) = decide (p ∈ ns)
  | [] => by simp [inV]
  | n :: ns => by
    have ih := inV_str (p := p) (ns := ns)
    unfold inV at ih ⊢
    rw [List.map_cons, List.any_cons, ih]
    show ((n == p) || decide (p ∈ ns)) = decide (p ∈ n :: ns)
    by_cases h : n = p
    · simp [h]
    · have h' : ¬ p = n := fun z => h z.symm
      simp [h, h']
theorem inV_int {p : Int} : ∀ {ns : List Int}, inV (.int p) (ns.map V.int) = decide (p ∈ ns)
  | [] => by simp [inV]
  | n :: ns => by
    have ih := inV_int (p := p) (ns := ns)
    unfold inV at ih ⊢
    rw [List.map_cons, List.any_cons, ih]
    show ((n == p) || decide (p ∈ ns)) = decide (p ∈ n :: ns)
    by_cases h : n = p
    · simp [h]
    · have h' : ¬ p = n := fun z => h z.symm
      simp [h, h']
theorem flat_strs {ns : List Str} : (ns.map V.str).all flatV = true := by
  rw [List.all_eq_true]
  intro x hx
  obtain ⟨n, _, rfl⟩ := List.mem_map.mp hx
  rfl
theorem flat_ints {ns : List Int} : (ns.map V.int).all flatV = true := by
  rw [List.all_eq_true]
  intro x hx
  obtain ⟨n, _, rfl⟩ := List.mem_map.mp hx
  rfl
theorem d_inS {p : Str} {ns : List Str} : R2D K (uIn K) (.str p) (.lst (ns.map .str)) (.bl (decide (p ∈ ns))) := fun F H x y e hx ⟨a, vs, hy, ha, ra⟩ Q q => .inl (by
  rw [show x = .str p from hx]
  refine ⟨a, vs, hy, .inl (sq_of (e _ _ ha)), rfl, ?_, q _ F H (.refl e) ?_⟩
  · rw [RepL.strs ra]; exact flat_strs
  · rw [RepL.strs ra, inV_str]; rfl)
theorem d_inST {p : Str} {ns : List Str} : R2D K (uIn K) (.str p) (.tup (ns.map .str)) (.bl (decide (p ∈ ns))) := fun F H x y e hx ⟨a, vs, hy, ha, ra⟩ Q q => .inl (by
  rw [show x = .str p from hx]
  refine ⟨a, vs, hy, .inr (ex_t e ha), rfl, ?_, q _ F H (.refl e) ?_⟩
  · rw [RepL.strs ra]; exact flat_strs
  · rw [RepL.strs ra, inV_str]; rfl)
theorem d_niS {p : Str} {ns : List Str} : R2D K (uNi K) (.str p) (.lst (ns.map .str)) (.bl (!decide (p ∈ ns))) := fun F H x y e hx ⟨a, vs, hy, ha, ra⟩ Q q => .inl (by
  rw [show x = .str p from hx]
  refine ⟨a, vs, hy, .inl (sq_of (e _ _ ha)), rfl, ?_, q _ F H (.refl e) ?_⟩
  · rw [RepL.strs ra]; exact flat_strs
  · rw [RepL.strs ra, inV_str]; rfl)
theorem d_niST {p : Str} {ns : List Str} : R2D K (uNi K) (.str p) (.tup (ns.map .str)) (.bl (!decide (p ∈ ns))) := fun F H x y e hx ⟨a, vs, hy, ha, ra⟩ Q q => .inl (by
  rw [show x = .str p from hx]
  refine ⟨a, vs, hy, .inr (ex_t e ha), rfl, ?_, q _ F H (.refl e) ?_⟩
  · rw [RepL.strs ra]; exact flat_strs
  · rw [RepL.strs ra, inV_str]; rfl)
theorem d_inG {c : Nat} {z : Str} : R2D K (uIn K) (.str ⟨#[c]⟩) (.str z) (.bl (decide (c ∈ z.cps.toList))) := fun F H x y e hx hy Q q => .inr (.inl ⟨c, z, hx, hy, q _ F H (.refl e) rfl⟩)
theorem d_niG {c : Nat} {z : Str} : R2D K (uNi K) (.str ⟨#[c]⟩) (.str z) (.bl (!decide (c ∈ z.cps.toList))) := fun F H x y e hx hy Q q => .inr (.inl ⟨c, z, hx, hy, q _ F H (.refl e) rfl⟩)
/-! ### a[b] -/
theorem atI_rep {H : Hp} {ds : List D} {vs : List V} {i : Int} {d : D} (r : RepL K H ds vs) (h : atI ds i = some d) : ∃ v, atI vs i = some v ∧ Rep K H d v := by
  unfold atI at h ⊢
  rw [r.len]
  cases hx : ixN ds.length i with
  | none => rw [hx] at h; cases h
  | some j =>
    rw [hx] at h
    exact r.get (show ds[j]? = some d from h)
theorem d_ixL {ds : List D} {i : Int} {d : D} (h : atI ds i = some d) : R2D K (uIx K) (.lst ds) (.int i) d := fun F H x y e ⟨a, vs, hx, ha, ra⟩ hy Q q => by
  obtain ⟨v, hv, rv⟩ := atI_rep ra h
  exact .inl (.inl ⟨a, vs, i, v, hx, hy, sq_of (e _ _ ha), hv, q v F H (.refl e) rv⟩)
theorem d_ixT {ds : List D} {i : Int} {d : D} (h : atI ds i = some d) : R2D K (uIx K) (.tup ds) (.int i) d := fun F H x y e ⟨a, vs, hx, ha, ra⟩ hy Q q => by
  obtain ⟨v, hv, rv⟩ := atI_rep ra h
  exact .inl (.inr (.inl ⟨a, vs, i, v, hx, hy, ex_t e ha, hv, q v F H (.refl e) rv⟩))
theorem d_ixS {z : Str} {i : Int} {c : Nat} (hz : z.length ≤ 100000) (h : atI z.cps.toList i = some c) : R2D K (uIx K) (.str z) (.int i) (.str ⟨#[c]⟩) := fun F H x y e hx hy Q q =>
  .inl (.inr (.inr ⟨z, i, c, hx, hy, sz_of hz, h, q _ F H (.refl e) rfl⟩))
theorem d_ixR {ns : List Int} {i : Int} {n : Int} (h : atI ns i = some n) : R2D K (uIx K) (.scr ns) (.int i) (.int n) := fun F H x y e ⟨a, hx, ha⟩ hy Q q => by
  refine .inl (.inl ⟨a, ns.map V.int, i, .int n, hx, hy, ex_l e ha, ?_, q _ F H (.refl e) rfl⟩)
  unfold atI at h ⊢
  rw [List.length_map]
  cases hx : ixN ns.length i with
  | none => rw [hx] at h; cases h
  | some j =>
    rw [hx] at h
    show (ns.map V.int)[j]? = some (V.int n)
    rw [List.getElem?_map, show ns[j]? = some n from h]; rfl
/-- what a dict's entries tell at a key -/
def dlk : List Key → List D → Key → Option D
  | k :: ks, d :: ds, x => if k = x then some d else dlk ks ds x
  | _, _, _ => none
theorem zip_val {H : Hp} {k : Key} : ∀ {ks : List Key} {ds : List D} {vs : List V} {d : D}, RepL K H ds vs → dlk ks ds k = some d → ∃ v, valV (ks.zip vs) k = some v ∧ Rep K H d v
  | [], ds, _, _, _, h => by simp [dlk] at h
  | n :: ks, [], _, _, _, h => by simp [dlk] at h
  | n :: ks, o :: ds, _, d, ⟨w, ws, h1, r1, r2⟩, h => by
    subst h1
    rw [List.zip_cons_cons]
    have h : (if n = k then some o else dlk ks ds k) = some d := h
    by_cases hb : n = k
    · rw [if_pos hb] at h
      cases h
      exact ⟨w, valV_pos hb, r1⟩
    · rw [if_neg hb] at h
      obtain ⟨v, hv, rv⟩ := zip_val r2 h
      exact ⟨v, by rw [valV_neg hb]; exact hv, rv⟩
theorem zip_no {H : Hp} {k : Key} : ∀ {ks : List Key} {ds : List D} {vs : List V}, RepL K H ds vs → ks.length = vs.length → dlk ks ds k = none → valV (ks.zip vs) k = none
  | [], ds, _, _, _, h => rfl
  | n :: ks, [], _, r, l, h => by cases (show _ = [] from r); simp at l
  | n :: ks, o :: ds, _, ⟨w, ws, h1, r1, r2⟩, l, h => by
    subst h1
    rw [List.zip_cons_cons]
    have h : (if n = k then some o else dlk ks ds k) = none := h
    by_cases hb : n = k
    · rw [if_pos hb] at h; cases h
    · rw [if_neg hb] at h
      rw [valV_neg hb]
      exact zip_no r2 (by simpa using l) h
theorem d_ixDs {ks : List Key} {ds : List D} {k : Str} {d : D} (h : dlk ks ds (Sum.inr k) = some d) : R2D K (uIx K) (.dic ks ds) (.str k) d := fun F H x y e ⟨a, vs, hx, ha, hl, ra⟩ hy Q q => by
  obtain ⟨v, hv, rv⟩ := zip_val ra h
  exact .inr ⟨a, v, hx, .inl ⟨_, Sum.inr k, ex_rd e ha, hy, hv.symm⟩, q v F H (.refl e) rv⟩
theorem d_inD {ks : List Key} {ds : List D} {k : Str} (hn : ks.length = ds.length) : R2D K (uIn K) (.str k) (.dic ks ds) (.bl (dlk ks ds (Sum.inr k)).isSome) := fun F H y x e hy ⟨a, vs, hx, ha, hl, ra⟩ Q q => by
  refine .inr (.inr ⟨a, valV (ks.zip vs) (Sum.inr k), hx, .inl ⟨_, Sum.inr k, ex_rd e ha, hy, rfl⟩, q _ F H (.refl e) ?_⟩)
  cases h : dlk ks ds (Sum.inr k) with
  | none => rw [zip_no ra hl h]; rfl
  | some d => obtain ⟨v, hv, _⟩ := zip_val ra h; rw [hv]; rfl
theorem d_niD {ks : List Key} {ds : List D} {k : Str} (hn : ks.length = ds.length) : R2D K (uNi K) (.str k) (.dic ks ds) (.bl (!(dlk ks ds (Sum.inr k)).isSome)) := fun F H y x e hy ⟨a, vs, hx, ha, hl, ra⟩ Q q => by
  refine .inr (.inr ⟨a, valV (ks.zip vs) (Sum.inr k), hx, .inl ⟨_, Sum.inr k, ex_rd e ha, hy, rfl⟩, q _ F H (.refl e) ?_⟩)
  cases h : dlk ks ds (Sum.inr k) with
  | none => rw [zip_no ra hl h]; rfl
  | some d => obtain ⟨v, hv, _⟩ := zip_val ra h; rw [hv]; rfl
/-! ### built-ins -/
theorem d_lenL {ds : List D} : RAD K (uLen K) [.lst ds] (.int (ds.length : Nat)) := fun F H vs e ⟨w, ws, h1, ⟨a, us, h2, ha, ra⟩, h3⟩ Q q => .inl ⟨w, us.length, by rw [h1, show ws = [] from h3], by rw [h2]; exact .inl ⟨us, sq_of (e _ _ ha), rfl⟩, q _ F H (.refl e) (by rw [ra.len]; rfl)⟩
theorem d_lenT {ds : List D} : RAD K (uLen K) [.tup ds] (.int (ds.length : Nat)) := fun F H vs e ⟨w, ws, h1, ⟨a, us, h2, ha, ra⟩, h3⟩ Q q => .inl ⟨w, us.length, by rw [h1, show ws = [] from h3], by rw [h2]; exact .inr ⟨us, ex_t e ha, rfl⟩, q _ F H (.refl e) (by rw [ra.len]; rfl)⟩
theorem d_lenR {ns : List Int} : RAD K (uLen K) [.scr ns] (.int (ns.length : Nat)) := fun F H vs e ⟨w, ws, h1, ⟨a, h2, ha⟩, h3⟩ Q q => .inl ⟨w, ns.length, by rw [h1, show ws = [] from h3], by rw [h2]; exact .inl ⟨_, ex_l e ha, by simp⟩, q _ F H (.refl e) rfl⟩
theorem d_lenS {z : Str} (h : z.length ≤ 100000) : RAD K (uLen K) [.str z] (.int (z.length : Nat)) := fun F H vs e ⟨w, ws, h1, h2, h3⟩ Q q => .inl ⟨w, z.length, by rw [h1, show ws = [] from h3], by rw [show w = .str z from h2]; exact ⟨sz_of h, rfl⟩, q _ F H (.refl e) rfl⟩
theorem d_lenD {ks : List Key} {ds : List D} : RAD K (uLen K) [.dic ks ds] (.int (ks.length : Nat)) := fun F H vs e ⟨w, ws, h1, ⟨a, us, h2, ha, hl, ra⟩, h3⟩ Q q => .inr ⟨a, _, by rw [h1, show ws = [] from h3, h2], ex_rd e ha, q _ F H (.refl e) (by rw [List.length_zip, ← hl, Nat.min_self]; rfl)⟩
theorem d_sum {ns : List Int} : RAD K (rSum K) [.lst (ns.map .int)] (.int ns.sum) := fun F H vs e ⟨w, ws, h1, ⟨a, us, h2, ha, ra⟩, h3⟩ Q q => ⟨a, ns, by rw [h1, show ws = [] from h3, h2], by rw [← RepL.ints ra]; exact sq_of (e _ _ ha), q _ F H (.refl e) rfl⟩
theorem d_all {bs : List Bool} : RAD K (rAll K) [.lst (bs.map .bl)] (.bl (bs.all id)) := fun F H vs e ⟨w, ws, h1, ⟨a, us, h2, ha, ra⟩, h3⟩ Q q => ⟨a, bs, by rw [h1, show ws = [] from h3, h2], by rw [← RepL.bls ra]; exact sq_of (e _ _ ha), q _ F H (.refl e) rfl⟩
theorem d_any {bs : List Bool} : RAD K (rAny K) [.lst (bs.map .bl)] (.bl (bs.any id)) := fun F H vs e ⟨w, ws, h1, ⟨a, us, h2, ha, ra⟩, h3⟩ Q q => ⟨a, bs, by rw [h1, show ws = [] from h3, h2], by rw [← RepL.bls ra]; exact sq_of (e _ _ ha), q _ F H (.refl e) rfl⟩
/-- the greatest, the least -/
def mxL : List Int → Int
  | [] => 0
  | [a] => a
  | a :: b :: r => max a (mxL (b :: r))
def mnL : List Int → Int
  | [] => 0
  | [a] => a
  | a :: b :: r => min a (mnL (b :: r))
theorem mxL_mem : ∀ {l : List Int}, l ≠ [] → mxL l ∈ l
  | [], h => absurd rfl h
  | [a], _ => by simp [mxL]
  | a :: b :: r, _ => by
    have ih := mxL_mem (l := b :: r) (by simp)
    show max a (mxL (b :: r)) ∈ a :: b :: r
    by_cases h : a ≤ mxL (b :: r)
    · rw [Int.max_eq_right h]; exact List.mem_cons_of_mem _ ih
    · rw [Int.max_eq_left (by omega)]; exact List.mem_cons_self
theorem mxL_ge : ∀ {l : List Int} {y : Int}, y ∈ l → y ≤ mxL l
  | [a], y, h => by have : y = a := by simpa using h
                    subst this; exact Int.le_refl _
  | a :: b :: r, y, h => by
    show y ≤ max a (mxL (b :: r))
    rcases List.mem_cons.mp h with e | h
    · subst e; omega
    · have := mxL_ge (l := b :: r) h; omega
theorem mnL_mem : ∀ {l : List Int}, l ≠ [] → mnL l ∈ l
  | [], h => absurd rfl h
  | [a], _ => by simp [mnL]
  | a :: b :: r, _ => by
    have ih := mnL_mem (l := b :: r) (by simp)
    show min a (mnL (b :: r)) ∈ a :: b :: r
    by_cases h : a ≤ mnL (b :: r)
    · rw [Int.min_eq_left h]; exact List.mem_cons_self
    · rw [Int.min_eq_right (by omega)]; exact List.mem_cons_of_mem _ ih
theorem mnL_le : ∀ {l : List Int} {y : Int}, y ∈ l → mnL l ≤ y
  | [a], y, h => by have : y = a := by simpa using h
                    subst this; exact Int.le_refl _
  | a :: b :: r, y, h => by
    show min a (mnL (b :: r)) ≤ y
    rcases List.mem_cons.mp h with e | h
    · subst e; omega
    · have := mnL_le (l := b :: r) h; omega
theorem d_max {ns : List Int} (h0 : ns ≠ []) : RAD K (uMax K) [.lst (ns.map .int)] (.int (mxL ns)) := fun F H vs e ⟨w, ws, h1, ⟨a, us, h2, ha, ra⟩, h3⟩ Q q => .inl ⟨a, ns, by rw [h1, show ws = [] from h3, h2], by rw [← RepL.ints ra]; exact sq_of (e _ _ ha), List.length_pos_iff.mpr h0, fun m hm hle => by
  have : m = mxL ns := Int.le_antisymm (mxL_ge hm) (hle _ (mxL_mem h0))
  rw [this]
  exact q _ F H (.refl e) rfl⟩
theorem d_min {ns : List Int} (h0 : ns ≠ []) : RAD K (uMin K) [.lst (ns.map .int)] (.int (mnL ns)) := fun F H vs e ⟨w, ws, h1, ⟨a, us, h2, ha, ra⟩, h3⟩ Q q => .inl ⟨a, ns, by rw [h1, show ws = [] from h3, h2], by rw [← RepL.ints ra]; exact sq_of (e _ _ ha), List.length_pos_iff.mpr h0, fun m hm hle => by
  have : m = mnL ns := Int.le_antisymm (hle _ (mnL_mem h0)) (mnL_le hm)
  rw [this]
  exact q _ F H (.refl e) rfl⟩
theorem d_max2 {i j : Int} : RAD K (uMax K) [.int i, .int j] (.int (max i j)) := fun F H vs e ⟨w, ws, h1, h2, w2, ws2, h3, h4, h5⟩ Q q => .inr ⟨i, j, by rw [h1, h3, show ws2 = [] from h5, show w = .int i from h2, show w2 = .int j from h4], q _ F H (.refl e) (by
  show V.int (if j > i then j else i) = V.int (max i j)
  congr 1
  split <;> omega)⟩
theorem d_min2 {i j : Int} : RAD K (uMin K) [.int i, .int j] (.int (min i j)) := fun F H vs e ⟨w, ws, h1, h2, w2, ws2, h3, h4, h5⟩ Q q => .inr ⟨i, j, by rw [h1, h3, show ws2 = [] from h5, show w = .int i from h2, show w2 = .int j from h4], q _ F H (.refl e) (by
  show V.int (if j < i then j else i) = V.int (min i j)
  congr 1
  split <;> omega)⟩
theorem one_of {H : Hp} {d : D} {vs : List V} (h : RepL K H [d] vs) : ∃ w, vs = [w] ∧ Rep K H d w := by
  obtain ⟨w, ws, h1, h2, h3⟩ := h
  exact ⟨w, by rw [h1, show ws = [] from h3], h2⟩
theorem d_abs {i : Int} : RAD K rAbs [.int i] (.int (i.natAbs : Nat)) := fun F H vs e h Q q => by
  obtain ⟨w, rfl, h2⟩ := one_of h
  exact ⟨i, by rw [show w = .int i from h2], q _ F H (.refl e) (by
    show V.int (if i < 0 then -i else i) = V.int (i.natAbs : Nat)
    congr 1
    split <;> omega)⟩
theorem d_int {i : Int} : RAD K uInt [.int i] (.int i) := fun F H vs e h Q q => by
  obtain ⟨w, rfl, h2⟩ := one_of h
  exact .inl (.inl ⟨i, by rw [show w = .int i from h2], q _ F H (.refl e) rfl⟩)
theorem d_intB {b : Bool} : RAD K uInt [.bl b] (.int (if b then 1 else 0)) := fun F H vs e h Q q => by
  obtain ⟨w, rfl, h2⟩ := one_of h
  exact .inl (.inr ⟨b, by rw [show w = .bl b from h2], q _ F H (.refl e) rfl⟩)
theorem d_intS {z : Str} {n : Int} (hn : PySem.intText? z = some n) (hz : z.length ≤ 640) : RAD K uInt [.str z] (.int n) := fun F H vs e h Q q => by
  obtain ⟨w, rfl, h2⟩ := one_of h
  exact .inr ⟨z, n, by rw [show w = .str z from h2], hn, hz, q _ F H (.refl e) rfl⟩
theorem d_str {i : Int} (hi : i.natAbs.log2 < 1920) : RAD K rStrI [.int i] (.str (Str.ofString (toString i))) := fun F H vs e h Q q => by
  obtain ⟨w, rfl, h2⟩ := one_of h
  exact ⟨i, by rw [show w = .int i from h2], hi, q _ F H (.refl e) rfl⟩
theorem d_listL {ds : List D} : RAD K (uList K) [.lst ds] (.lst ds) := fun F H vs e h Q q => by
  obtain ⟨w, rfl, a, us, h2, ha, ra⟩ := one_of h
  exact .inl ⟨a, us, by rw [h2], .inl (sq_of (e _ _ ha)), fun p hp => q _ _ _ (.new e hp) ⟨p, us, rfl, upd_same, ra.mono (Up.new (o := .lst us) e hp).f⟩⟩
theorem d_listT {ds : List D} : RAD K (uList K) [.tup ds] (.lst ds) := fun F H vs e h Q q => by
  obtain ⟨w, rfl, a, us, h2, ha, ra⟩ := one_of h
  exact .inl ⟨a, us, by rw [h2], .inr (ex_t e ha), fun p hp => q _ _ _ (.new e hp) ⟨p, us, rfl, upd_same, ra.mono (Up.new (o := .lst us) e hp).f⟩⟩
def kD : Key → D
  | .inl i => .int i
  | .inr x => .str x
theorem rep_keys {H : Hp} : ∀ {ks : List Key} {vs : List V}, ks.length = vs.length → RepL K H (ks.map kD) ((ks.zip vs).map fun kv => kV kv.1)
  | [], _, _ => rfl
  | k :: ks, [], h => by simp at h
  | k :: ks, v :: vs, h => ⟨_, _, rfl, by cases k <;> rfl, rep_keys (by simpa using h)⟩
theorem d_listD {ks : List Key} {ds : List D} : RAD K (uList K) [.dic ks ds] (.lst (ks.map kD)) := fun F H vs e h Q q => by
  obtain ⟨w, rfl, a, us, h2, ha, hl, ra⟩ := one_of h
  exact .inr ⟨a, _, by rw [h2], ex_rd e ha, fun p hp => q _ _ _ (.new e hp) ⟨p, _, rfl, upd_same, rep_keys hl⟩⟩
theorem d_tupL {ds : List D} : RAD K (rTupS K) [.lst ds] (.tup ds) := fun F H vs e h Q q => by
  obtain ⟨w, rfl, a, us, h2, ha, ra⟩ := one_of h
  exact ⟨a, us, by rw [h2], .inl ⟨sq_of (e _ _ ha), fun p hp => q _ _ _ (.new e hp) ⟨p, us, rfl, st_of upd_same, ra.mono (Up.new (o := .tup us) e hp).f⟩⟩⟩
/-- sorted ints -/
def srt (ns : List Int) : List Int := ns.mergeSort fun a b => decide (a ≤ b)
theorem srt_perm (ns : List Int) : (srt ns).Perm ns := List.mergeSort_perm _ _
theorem srt_pw (ns : List Int) : (srt ns).Pairwise (· ≤ ·) := by
  have h := List.pairwise_mergeSort (le := fun a b : Int => decide (a ≤ b)) (by intro a b c h1 h2; simp at h1 h2 ⊢; omega) (by intro a b; simp; omega) ns
  exact h.imp (by intro a b h; simpa using h)
theorem srt_unique {ns ns' : List Int} (hp : ns'.Perm ns) (hs : ns'.Pairwise (· ≤ ·)) : ns' = srt ns :=
  List.Perm.eq_of_pairwise (le := fun a b : Int => a ≤ b) (fun a b _ _ h1 h2 => Int.le_antisymm h1 h2) hs (srt_pw ns) (hp.trans (srt_perm ns).symm)
theorem d_sorted {ns : List Int} : RAD K (rSortedI K) [.lst (ns.map .int)] (.lst ((srt ns).map .int)) := fun F H vs e h Q q => by
  obtain ⟨w, rfl, a, us, h2, ha, ra⟩ := one_of h
  refine ⟨a, ns, by rw [h2], by rw [← RepL.ints ra]; exact sq_of (e _ _ ha), fun ns' p hp hs hn => ?_⟩
  rw [srt_unique hp hs]
  exact q _ _ _ (.new e hn) ⟨p, _, rfl, upd_same, RepL.of_ints⟩
/-- isinstance(x, T) -/
def D.kind : D → Option String
  | .non => some "NoneType" | .bl _ => some "bool" | .int _ => some "int" | .str _ => some "str" | .tup _ => some "tuple" | .lst _ => some "list" | _ => none
theorem tyx_of {F H : Hp} (e : Ex F H) {d : D} {v : V} {t : String} (r : Rep K F d v) (h : d.kind = some t) : TyX K H v (.type t) := by
  cases d with
  | non => cases h; rw [show v = .non from r]; exact .base .non
  | bl b => cases h; rw [show v = .bl b from r]; exact .base (.bl b)
  | int i => cases h; rw [show v = .int i from r]; exact .base (.int i)
  | str x => cases h; rw [show v = .str x from r]; exact .base (.str x)
  | tup ds =>
    cases h
    obtain ⟨a, vs, rfl, h2, _⟩ := r
    rcases ex_t e h2 with (z | ⟨o, z⟩) | ⟨o, its, n, z, c, _⟩
    · exact .base (.tup z)
    · exact .fTuple z
    · exact .kTuple z c
  | lst ds =>
    cases h
    obtain ⟨a, vs, rfl, h2, _⟩ := r
    exact .base (.lst (e _ _ h2))
  | _ => cases h
theorem d_isiTy {d : D} {t T : String} {b : Bool} (ht : d.kind = some t) (h : kitB t T = some b) : RAD K (rIsi K) [d, .ty T] (.bl b) := fun F H vs e ⟨w, ws, h1, h2, w2, ws2, h3, h4, h5⟩ Q q =>
  ⟨w, .ty T, .type t, .type T, b, by rw [h1, h3, show ws2 = [] from h5, show w2 = .ty T from h4], .ty T, tyx_of e h2 ht, kit_ty h, q _ F H (.refl e) rfl⟩
/-- extend, append: see Dl2; list.index -/
theorem eqv_ints {a b : Int} : eqV (.int a) (.int b) = decide (a = b) := by show (a == b) = _; rw [Bool.eq_iff_iff]; simp
def fstAt (ns : List Int) (x : Int) : Nat := ns.idxOf x
theorem ev_indexI {ta te : TE} {env env1 env2 : List Slot} {ns : List Int} {x : Int} (ho : Ev K ta env (.lst (ns.map .int)) env1) (he : Ev K te env1 (.int x) env2) (hx : x ∈ ns) :
    Ev K (tBM K "list" (rIndex K) ta (tCons te tNil)) env (.int (ns.idxOf x : Nat)) env2 := fun B F H σ s Q q =>
  ho B F H σ s _ fun v F1 H1 s1 g1 ⟨a, us, h1, ha, ra⟩ => by
    subst h1
    refine ⟨Or.inl ⟨rfl, us, sq_of (s1.fh _ _ ha)⟩, he B F1 H1 σ s1 _ fun w F2 H2 s2 g2 r2 => ?_⟩
    have hl : ns.idxOf x < ns.length := List.idxOf_lt_length_iff.mpr hx
    refine ⟨a, us, w, ns.idxOf x, .int x, rfl, rfl, sq_of (s2.fh _ _ (g2.f _ _ ha)), by rw [show w = .int x from r2]; rfl, by rw [RepL.ints ra]; exact flat_ints, ?_, by rw [show w = .int x from r2, eqv_ints]; simp, fun m z hm hz => ?_, q _ F2 H2 s2 (g1.trans g2) rfl⟩
    · rw [RepL.ints ra, List.getElem?_map, List.getElem?_eq_getElem hl, List.getElem_idxOf hl]; rfl
    · rw [RepL.ints ra, List.getElem?_map] at hz
      obtain ⟨n, hn, rfl⟩ := Option.map_eq_some_iff.mp hz
      rw [show w = .int x from r2, eqv_ints]
      refine decide_eq_false fun e => ?_
      subst e
      have hml : m < ns.length := by omega
      have h3 := List.not_of_lt_findIdx (p := (· == n)) (xs := ns) (i := m) hm
      rw [List.getElem?_eq_getElem hml] at hn
      have : ns[m] = n := Option.some.inj hn
      simp [this] at h3
/-- slices -/
def EvO (K : PySem.W.Frag) (to : TO) (env : List Slot) (o : Option Int) (env' : List Slot) : Prop :=
  ∀ B F H σ, RepS K B F H σ env → ∀ Q : Option Int → Hp → Prop, (∀ F' H', RepS K B F' H' σ env' → Gr B F F' → Q o H') → to σ H Q
theorem eo_none {env : List Slot} : EvO K tNoPart env none env := fun B F H σ s Q q => q F H s .refl
theorem eo_some {te : TE} {env env1 : List Slot} {i : Int} (h : Ev K te env (.int i) env1) : EvO K (tPart te) env (some i) env1 := fun B F H σ s Q q => h B F H σ s _ fun v F1 H1 s1 g1 r1 => ⟨i, r1, q F1 H1 s1 g1⟩
def cutD (xs : List D) (lo hi : Option Int) : List D := (xs.drop (HT.sIx xs.length 0 lo)).take (HT.sIx xs.length xs.length hi - HT.sIx xs.length 0 lo)
theorem cut_rep {H : Hp} {ds : List D} {vs : List V} (r : RepL K H ds vs) (lo hi : Option Int) : RepL K H (cutD ds lo hi) (cutV vs lo hi) := by
  unfold cutD cutV
  rw [r.len]
  exact (r.drop _).take _
theorem ev_slL {te : TE} {tl th : TO} {env env1 env2 env3 : List Slot} {ds : List D} {lo hi : Option Int} (he : Ev K te env (.lst ds) env1) (hl : EvO K tl env1 lo env2) (hh : EvO K th env2 hi env3) : Ev K (tSl (uSl K) te tl th) env (.lst (cutD ds lo hi)) env3 := fun B F H σ s Q q =>
  he B F H σ s _ fun v F1 H1 s1 g1 ⟨a, us, h1, ha, ra⟩ => hl B F1 H1 σ s1 _ fun F2 H2 s2 g2 => hh B F2 H2 σ s2 _ fun F3 H3 s3 g3 => .inl ⟨a, us, h1, sq_of (s3.fh _ _ (g3.f _ _ (g2.f _ _ ha))), fun p hp => by
    have u := Up.new (o := .lst (cutV us lo hi)) s3.fh hp
    exact q _ _ _ (s3.up u) ((g1.trans (g2.trans g3)).trans (.of_up s3.bh u)) ⟨p, _, rfl, upd_same, (cut_rep ra lo hi).mono (g2.f.trans (g3.f.trans u.f))⟩⟩
theorem ev_slT {te : TE} {tl th : TO} {env env1 env2 env3 : List Slot} {ds : List D} {lo hi : Option Int} (he : Ev K te env (.tup ds) env1) (hl : EvO K tl env1 lo env2) (hh : EvO K th env2 hi env3) : Ev K (tSl (uSl K) te tl th) env (.tup (cutD ds lo hi)) env3 := fun B F H σ s Q q =>
  he B F H σ s _ fun v F1 H1 s1 g1 ⟨a, us, h1, ha, ra⟩ => hl B F1 H1 σ s1 _ fun F2 H2 s2 g2 => hh B F2 H2 σ s2 _ fun F3 H3 s3 g3 => .inr (.inl ⟨a, us, h1, ex_t s3.fh (ex_t g3.f (ex_t g2.f ha)), fun hw => by
    refine q _ F3 H3 s3 (g1.trans (g2.trans g3)) ⟨a, us, rfl, ex_t g3.f (ex_t g2.f ha), ?_⟩
    have hc : cutD ds lo hi = ds := by
      unfold cutD
      rw [← ra.len, hw.1, hw.2, List.drop_zero, Nat.sub_zero, ra.len, List.take_length]
    rw [hc]
    exact ra.mono (g2.f.trans g3.f), fun _ p hp => by
    have u := Up.new (o := .tup (cutV us lo hi)) s3.fh hp
    exact q _ _ _ (s3.up u) ((g1.trans (g2.trans g3)).trans (.of_up s3.bh u)) ⟨p, _, rfl, st_of upd_same, (cut_rep ra lo hi).mono (g2.f.trans (g3.f.trans u.f))⟩⟩)
theorem ev_slS {te : TE} {tl th : TO} {env env1 env2 env3 : List Slot} {z : Str} {lo hi : Option Int} (he : Ev K te env (.str z) env1) (hl : EvO K tl env1 lo env2) (hh : EvO K th env2 hi env3) (hz : z.length ≤ 100000) : Ev K (tSl (uSl K) te tl th) env (.str (cutS z lo hi)) env3 := fun B F H σ s Q q =>
  he B F H σ s _ fun v F1 H1 s1 g1 r1 => hl B F1 H1 σ s1 _ fun F2 H2 s2 g2 => hh B F2 H2 σ s2 _ fun F3 H3 s3 g3 => .inr (.inr ⟨z, r1, sz_of hz, q _ F3 H3 s3 (g1.trans (g2.trans g3)) rfl⟩)
/-- *xs in a display -/
theorem ea_starT {te : TE} {t : TA} {env env1 env2 : List Slot} {ds es : List D} (h : Ev K te env (.tup ds) env1) (hr : EvA K t env1 es env2) : EvA K (tStar K te t) env (ds ++ es) env2 := fun B F H σ s Q q =>
  h B F H σ s _ fun v F1 H1 s1 g1 ⟨a, us, h1, ha, ra⟩ => ⟨a, us, h1, .inl (ex_t s1.fh ha), hr B F1 H1 σ s1 _ fun ws F2 H2 s2 g2 r2 => q _ F2 H2 s2 (g1.trans g2) ((ra.mono g2.f).append r2)⟩
theorem ea_starL {te : TE} {t : TA} {env env1 env2 : List Slot} {ds es : List D} (h : Ev K te env (.lst ds) env1) (hr : EvA K t env1 es env2) : EvA K (tStar K te t) env (ds ++ es) env2 := fun B F H σ s Q q =>
  h B F H σ s _ fun v F1 H1 s1 g1 ⟨a, us, h1, ha, ra⟩ => ⟨a, us, h1, .inr (sq_of (s1.fh _ _ ha)), hr B F1 H1 σ s1 _ fun ws F2 H2 s2 g2 r2 => q _ F2 H2 s2 (g1.trans g2) ((ra.mono g2.f).append r2)⟩
/-- chains -/
theorem ev_chain {r r' : R2} {ta tb tc : TE} {env env1 env2 : List Slot} {a b c : D} {x y : Bool} (ha : Ev K ta env a env1) (hb : Ev K tb env1 b env2) (hr : R2D K r a b (.bl x)) (h1 : x = true → Ev K tc env2 c env2 ∧ R2D K r' b c (.bl y)) :
    Ev K (tChain r r' ta tb tc) env (.bl (x && y)) env2 := fun B F H σ s Q q =>
  ha B F H σ s _ fun v F1 H1 s1 g1 r1 => hb B F1 H1 σ s1 _ fun w F2 H2 s2 g2 r2 => hr F2 H2 v w s2.fh (r1.mono g2.f) r2 _ fun z F3 H3 u3 rz => by
    have s3 := s2.up u3
    have g3 := (g1.trans g2).trans (.of_up s2.bh u3)
    refine ⟨x, rz, ?_⟩
    cases x with
    | true =>
      obtain ⟨hc, hr'⟩ := h1 rfl
      refine iteT (hc B F3 H3 σ s3 _ fun t F4 H4 s4 g4 r4 => hr' F4 H4 w t s4.fh ((r2.mono u3.f).mono g4.f) r4 _ fun z F5 H5 u5 r5 => ?_)
      exact q z F5 H5 (s4.up u5) ((g3.trans g4).trans (.of_up s4.bh u5)) r5
    | false => exact iteF (q _ F3 H3 s3 g3 rfl)
/-! ### walks -/
section
variable {tl : TE} {env env1 : List Slot}
theorem Up.same {F H : Hp} (e : Ex F H) : Up F H F H := Up.refl e
theorem it_anyL {ds : List D} (h : Ev K tl env (.lst ds) env1) : It K (iAny K tl) env ds env1 fun _ => True := fun B F H σ s R q =>
  h B F H σ s _ fun v F1 H1 s1 g1 ⟨a, us, h1, ha, ra⟩ => .inl ⟨a, h1, ⟨us, sq_of (s1.fh _ _ ha)⟩, q _ F1 H1 s1 g1 fun B F H σ e r _ x => by
    have hs : SqL K H a us := sq_of (r.fh _ _ (x _ _ ha))
    refine ⟨fun i hi => ?_, ⟨us, hs, by rw [ra.len]; exact Nat.le_refl _⟩, fun i d y H' hd hy => ?_⟩
    · obtain ⟨v, hv, _⟩ := ra.get (List.getElem?_eq_getElem hi)
      exact ⟨us, v, hs, hv⟩
    · obtain ⟨e1, hy⟩ := hy
      subst e1
      obtain ⟨v, hv, rv⟩ := ra.get hd
      have := hy us hs
      rw [hv] at this
      cases this
      exact ⟨F, .refl r.fh, rv.mono x⟩⟩
theorem it_anyT {ds : List D} (h : Ev K tl env (.tup ds) env1) : It K (iAny K tl) env ds env1 fun _ => True := fun B F H σ s R q =>
  h B F H σ s _ fun v F1 H1 s1 g1 ⟨a, us, h1, ha, ra⟩ => .inr (.inl ⟨a, h1, ⟨us, ex_t s1.fh ha⟩, q _ F1 H1 s1 g1 fun B F H σ e r _ x => by
    have hs : SqT K H a us := ex_t r.fh (ex_t x ha)
    refine ⟨fun i hi => ?_, ⟨us, hs, by rw [ra.len]; exact Nat.le_refl _⟩, fun i d y H' hd hy => ?_⟩
    · obtain ⟨v, hv, _⟩ := ra.get (List.getElem?_eq_getElem hi)
      exact ⟨us, v, hs, hv⟩
    · obtain ⟨e1, hy⟩ := hy
      subst e1
      obtain ⟨v, hv, rv⟩ := ra.get hd
      have := hy us hs
      rw [hv] at this
      cases this
      exact ⟨F, .refl r.fh, rv.mono x⟩⟩)
theorem it_anyS {z : Str} (h : Ev K tl env (.str z) env1) : It K (iAny K tl) env (z.cps.toList.map fun c => D.str ⟨#[c]⟩) env1 fun _ => True := fun B F H σ s R q =>
  h B F H σ s _ fun v F1 H1 s1 g1 r1 => .inr (.inr ⟨z, r1, q _ F1 H1 s1 g1 fun B F H σ e r _ x => by
    refine ⟨fun i hi => by simpa [Its] using hi, by simp [Its], fun i d y H' hd hy => ?_⟩
    obtain ⟨e1, c, hc, rfl⟩ := hy
    subst e1
    rw [List.getElem?_map] at hd
    obtain ⟨c', hc', rfl⟩ := Option.map_eq_some_iff.mp hd
    have : z.cps.toList[i]? = some c := by rw [Array.getElem?_toList]; exact hc
    rw [this] at hc'
    cases hc'
    exact ⟨F, .refl r.fh, rfl⟩⟩)
theorem it_r1 {ta : TA} {n : Int} (h : EvA K ta env [.int n] env1) (h0 : n < 2 ^ 60) (h1 : -(2 ^ 60) < n) : It K (iRng1 ta) env ((List.range n.toNat).map fun i => D.int (i : Nat)) env1 fun _ => True := fun B F H σ s R q =>
  h B F H σ s _ fun vs F1 H1 s1 g1 r1 => ⟨n, RepL.ints (ns := [n]) r1, by omega, by omega, q _ F1 H1 s1 g1 fun B F H σ e r _ x => by
    refine ⟨fun i hi => by simpa [Itr] using hi, by simp [Itr]; try omega, fun i d y H' hd hy => ?_⟩
    obtain ⟨e1, rfl⟩ := hy
    subst e1
    rw [List.getElem?_map] at hd
    obtain ⟨j, hj, rfl⟩ := Option.map_eq_some_iff.mp hd
    have : j = i := by
      obtain ⟨h1, h2⟩ := List.getElem?_eq_some_iff.mp hj
      rw [List.getElem_range] at h2; exact h2.symm
    subst this
    refine ⟨F, .refl r.fh, ?_⟩
    show V.int (0 + (j : Int)) = V.int j
    rw [Int.zero_add]⟩
theorem it_r2 {ta : TA} {lo n : Int} (h : EvA K ta env [.int lo, .int n] env1) (h0 : n < 2 ^ 60) (h1 : -(2 ^ 60) < n) (h2 : lo < 2 ^ 60) (h3 : -(2 ^ 60) < lo) : It K (iRng2 ta) env ((List.range (n - lo).toNat).map fun i => D.int (lo + (i : Nat))) env1 fun _ => True := fun B F H σ s R q =>
  h B F H σ s _ fun vs F1 H1 s1 g1 r1 => ⟨lo, n, RepL.ints (ns := [lo, n]) r1, ⟨by omega, by omega, by omega, by omega⟩, q _ F1 H1 s1 g1 fun B F H σ e r _ x => by
    refine ⟨fun i hi => by simpa [Itr] using hi, by simp [Itr]; try omega, fun i d y H' hd hy => ?_⟩
    obtain ⟨e1, rfl⟩ := hy
    subst e1
    rw [List.getElem?_map] at hd
    obtain ⟨j, hj, rfl⟩ := Option.map_eq_some_iff.mp hd
    have : j = i := by
      obtain ⟨h1, h2⟩ := List.getElem?_eq_some_iff.mp hj
      rw [List.getElem_range] at h2; exact h2.symm
    subst this
    exact ⟨F, .refl r.fh, rfl⟩⟩
/-- a list or a tuple -/
def SeqD (d : D) (ds : List D) : Prop := d = .lst ds ∨ d = .tup ds
theorem seq_k {F H : Hp} {d : D} {ds : List D} {v : V} (hd : SeqD d ds) (r : Rep K F d v) : ∃ k a us, v = .ref a ∧ RepL K F ds us ∧ ∀ F' H', Ex F F' → Ex F' H' → SqK k K H' a us := by
  rcases hd with rfl | rfl
  · obtain ⟨a, us, h1, h2, h3⟩ := r
    exact ⟨true, a, us, h1, h3, fun F' H' x y => sq_of (y _ _ (x _ _ h2))⟩
  · obtain ⟨a, us, h1, h2, h3⟩ := r
    exact ⟨false, a, us, h1, h3, fun F' H' x y => ex_t y (ex_t x h2)⟩
theorem it_en {ta : TA} {d : D} {ds : List D} (h : EvA K ta env [d] env1) (hd : SeqD d ds) : It K (iEn K ta) env (ds.zipIdx.map fun p => D.tup [.int (p.2 : Nat), p.1]) env1 fun _ => True := fun B F H σ s R q =>
  h B F H σ s _ fun vs F1 H1 s1 g1 r1 => by
    obtain ⟨w, rfl, rw1⟩ := one_of r1
    obtain ⟨k, a, us, rfl, ra, hk⟩ := seq_k (H := H1) hd rw1
    refine ⟨k, a, us, rfl, hk F1 H1 (.refl _) s1.fh, q _ F1 H1 s1 g1 fun B F H σ e r _ x => ?_⟩
    have hs := hk F H x r.fh
    refine ⟨fun i hi => ?_, ⟨us, hs, by simp [ra.len]⟩, fun i d' y H' hd' hy => ?_⟩
    · have hi' : i < ds.length := by simpa using hi
      obtain ⟨v, hv, _⟩ := ra.get (List.getElem?_eq_getElem hi')
      exact ⟨us, v, hs, hv⟩
    · obtain ⟨T, u, rfl, hT, rfl, hy⟩ := hy
      rw [List.getElem?_map, List.getElem?_zipIdx] at hd'
      obtain ⟨p, hp, rfl⟩ := Option.map_eq_some_iff.mp hd'
      obtain ⟨d0, hd0, rfl⟩ := Option.map_eq_some_iff.mp hp
      obtain ⟨v, hv, rv⟩ := ra.get hd0
      have := hy us hs
      rw [hv] at this
      cases this
      have u := Up.new (o := .tup [.int (i : Nat), u]) r.fh hT
      refine ⟨_, u, T, _, rfl, st_of upd_same, _, _, rfl, ?_, _, _, rfl, (rv.mono x).mono u.f, rfl⟩
      show V.int (i : Nat) = V.int ((0 + i : Nat) : Int)
      rw [Nat.zero_add]
theorem it_zp {ta : TA} {d1 d2 : D} {ds es : List D} (h : EvA K ta env [d1, d2] env1) (h1 : SeqD d1 ds) (h2 : SeqD d2 es) : It K (iZp K ta) env ((ds.zip es).map fun p => D.tup [p.1, p.2]) env1 fun _ => True := fun B F H σ s R q =>
  h B F H σ s _ fun vs F1 H1 s1 g1 r1 => by
    obtain ⟨w, ws, rfl, rw1, r2⟩ := r1
    obtain ⟨w2, rfl, rw2⟩ := one_of r2
    obtain ⟨k, a, us, rfl, ra, hk⟩ := seq_k (H := H1) h1 rw1
    obtain ⟨k2, b, us2, rfl, rb, hk2⟩ := seq_k (H := H1) h2 rw2
    refine ⟨k, k2, a, b, us, us2, rfl, hk F1 H1 (.refl _) s1.fh, hk2 F1 H1 (.refl _) s1.fh, q _ F1 H1 s1 g1 fun B F H σ e r _ x => ?_⟩
    have hs := hk F H x r.fh
    have hs2 := hk2 F H x r.fh
    refine ⟨fun i hi => ?_, ⟨us, us2, hs, hs2, by simp [ra.len, rb.len]; omega⟩, fun i d' y H' hd' hy => ?_⟩
    · have hi' : i < ds.length ∧ i < es.length := by simp at hi; omega
      obtain ⟨v, hv, _⟩ := ra.get (List.getElem?_eq_getElem hi'.1)
      obtain ⟨v2, hv2, _⟩ := rb.get (List.getElem?_eq_getElem hi'.2)
      exact ⟨us, us2, v, v2, hs, hs2, hv, hv2⟩
    · obtain ⟨T, u, u2, rfl, hT, rfl, hy, hy2⟩ := hy
      rw [List.getElem?_map] at hd'
      obtain ⟨p, hp, rfl⟩ := Option.map_eq_some_iff.mp hd'
      obtain ⟨q1, q2⟩ := List.getElem?_zip_eq_some.mp hp
      obtain ⟨v, hv, rv⟩ := ra.get q1
      obtain ⟨v2, hv2, rv2⟩ := rb.get q2
      have e1 := hy us hs
      have e2 := hy2 us2 hs2
      rw [hv] at e1
      rw [hv2] at e2
      cases e1
      cases e2
      have u := Up.new (o := .tup [u, u2]) r.fh hT
      exact ⟨_, u, T, _, rfl, st_of upd_same, _, _, rfl, (rv.mono x).mono u.f, _, _, rfl, (rv2.mono x).mono u.f, rfl⟩
end
end Dl

set_option Elab.async false
set_option linter.all false
set_option maxRecDepth 100000
set_option maxHeartbeats 4000000
set_option autoImplicit false
/-! Op2: more statements, texts, comprehensions whose turns change one's own. -/
namespace Dl
open PySem L2 Evl StX PyProof.Rows
variable {K : PySem.W.Frag}
def rSplit : V → List V → Hp → VK → Prop := fun x xs H Q => ∃ a b, x = .str a ∧ xs = [.str b] ∧ (b.length == 0) = false ∧ a.length + 2 ≤ sizeLine ∧ rNewStrs (Txt.split a b) H Q
def rJoin (K : PySem.W.Frag) : V → List V → Hp → VK → Prop := fun x xs H Q => ∃ a p, ∃ ys : List Str, x = .str a ∧ xs = [.ref p] ∧ (SqL K H p (ys.map V.str) ∨ SqT K H p (ys.map V.str)) ∧
    (ys.map (·.length)).sum + ys.length * a.length ≤ 16777216 ∧ Q (.str (Txt.join a ys)) H
def uNeg : V → Hp → VK → Prop := rU fun i => .int (-i)
theorem d_uNeg {i : Int} : R1D K uNeg (.int i) (.int (-i)) := d_neg
section
variable {env env1 env2 : List Slot} {P : Post} {ta : TA} {te tb tx : TE} {a b d : D} {tt : TT} {tu z : TS}
theorem st_par {i j : Nat} (h : EvA K ta env [a, b] env1) (k : P.n ((env1.set i (.val a)).set j (.val b))) : St K (tPar i j ta) env P := fun B F H σ E r f =>
  h B F H σ r _ fun vs F1 H1 r1 g1 rv => by
    obtain ⟨v, ws, rfl, h2, h3⟩ := rv
    obtain ⟨w, rfl, h4⟩ := one_of h3
    exact ⟨v, w, rfl, f.n _ F1 H1 _ ((r1.set h2).set h4) g1 k⟩
theorem q_par {i j : Nat} (h : EvA K ta env [a, b] env1) (k : St K z ((env1.set i (.val a)).set j (.val b)) P) : St K (tSeq (tPar i j ta) z) env P := q (st_par h k)
theorem st_setU {i j : Nat} {p : Addr} {ds : List D} (h : Ev K te env d env1) (hb : Ev K tb env1 (.int (j : Int)) env2) (hi1 : env1[i]? = some (.own p (.lst ds))) (hi : env2[i]? = some (.own p (.lst ds))) (hj : j < ds.length) (k : P.n (env2.set i (.own p (.lst (ds.set j d))))) :
    St K (tAsg te (gSub (tVar i) tb uSet)) env P := fun B F H σ E r f =>
  h B F H σ r _ fun v F1 H1 r1 g1 rv => ⟨.ref p, (r1.own i p _ hi1).1, hb B F1 H1 σ r1 _ fun w F2 H2 r2 g2 rw2 => by
    obtain ⟨f1, f2, f3, vs, f4, f5⟩ := r2.own i p _ hi
    have hw : w = .int (j : Int) := rw2
    subst hw
    exact .inl ⟨p, vs, _, j, rfl, rfl, f4, ixN_nat (by rw [f5.len]; exact hj), f.n σ F2 _ _ (r2.put (o' := .lst (ds.set j d)) hi ⟨vs.set j v, upd_same, f5.set j (rv.mono g2.f)⟩) (g1.trans g2) k⟩⟩
theorem q_setU {i j : Nat} {p : Addr} {ds : List D} (h : Ev K te env d env1) (hb : Ev K tb env1 (.int (j : Int)) env2) (hi1 : env1[i]? = some (.own p (.lst ds))) (hi : env2[i]? = some (.own p (.lst ds))) (hj : j < ds.length) (k : St K z (env2.set i (.own p (.lst (ds.set j d)))) P) :
    St K (tSeq (tAsg te (gSub (tVar i) tb uSet)) z) env P := q (st_setU h hb hi1 hi hj k)
theorem ev_ixW {i j : Nat} {p : Addr} {ds : List D} (hi0 : env[i]? = some (.own p (.lst ds))) (hb : Ev K tb env (.int (j : Int)) env1) (hi : env1[i]? = some (.own p (.lst ds))) (hd : ds[j]? = some d) : Ev K (tOp (uIx K) (tVar i) tb) env d env1 :=
  ev_ixO (fun F H j d ⟨vs, h1, h2⟩ hd Q q => by
    obtain ⟨v, hv, rv⟩ := h2.get hd
    exact .inl (.inl ⟨p, vs, _, v, rfl, rfl, sq_of h1, atI_nat hv, q v rv⟩)) hi0 hb hi hd
/-- xs.extend(ys), xs one's own, ys a value -/
theorem st_ext {i : Nat} {p : Addr} {ds es : List D} (h : Ev K te env (.lst es) env1) (hi : env[i]? = some (.own p (.lst ds))) (hi1 : env1[i]? = some (.own p (.lst ds))) (hz : ds.length + es.length ≤ 100000) (k : P.n (env1.set i (.own p (.lst (ds ++ es))))) :
    St K (tDrop (tBM K "list" rExtend (tVar i) (tCons te tNil))) env P := fun B F H σ E r f => by
  obtain ⟨e1, e2, e3, vs0, e4, e5⟩ := r.own i p _ hi
  refine ⟨.ref p, e1, Or.inl ⟨rfl, vs0, sq_of e4⟩, h B F H σ r _ fun v F1 H1 r1 g1 ⟨b, us, hb, hu, ru⟩ => ?_⟩
  obtain ⟨f1, f2, f3, vs, f4, f5⟩ := r1.own i p _ hi1
  subst hb
  exact ⟨p, b, vs, us, rfl, rfl, f4, r1.fh _ _ hu, sz_of (by rw [f5.len, ru.len]; exact hz), f.n σ F1 _ _ (r1.put (o' := .lst (ds ++ es)) hi1 ⟨vs ++ us, upd_same, f5.append ru⟩) g1 k⟩
theorem st_while (I : Nat → List Slot → Prop) (m0 : Nat) (h0 : I m0 env)
    (hs : ∀ m e, I m e → ∃ b e1, EvT K tt e b e1 ∧ (b = true → St K tu e1 { n := fun e => ∃ m', m' < m ∧ I m' e, c := fun e => ∃ m', m' < m ∧ I m' e, b := P.n, r := P.r }) ∧ (b = false → P.n e1)) : St K (tWhile tt tu) env P := fun B F H σ E r f => by
  refine ⟨fun m σ' H' => ∃ F' e, RepS K B F' H' σ' e ∧ Gr B F F' ∧ I m e, ⟨m0, F, env, r, .refl, h0⟩, ?_⟩
  rintro m σ' H' ⟨F', e, r', g', hI⟩
  obtain ⟨b, e1, hb, h1, h2⟩ := hs m e hI
  refine hb B F' H' σ' r' _ fun F1 H1 r1 g1 => ?_
  cases b with
  | true =>
    refine iteT ⟨fun σ2 H2 => ∃ m', m' < m ∧ ∃ F2 e2, RepS K B F2 H2 σ2 e2 ∧ Gr B F F2 ∧ I m' e2, fun σ2 H2 ⟨m', hm, h⟩ => ⟨m', hm, h⟩, ?_⟩
    have ff : ∀ σ2 F2 H2 e2, RepS K B F2 H2 σ2 e2 → Gr B F1 F2 → (∃ m', m' < m ∧ I m' e2) → ∃ m', m' < m ∧ ∃ F2 e2, RepS K B F2 H2 σ2 e2 ∧ Gr B F F2 ∧ I m' e2 := fun σ2 F2 H2 e2 r2 g2 ⟨m', hm, hI2⟩ => ⟨m', hm, F2, e2, r2, g'.trans (g1.trans g2), hI2⟩
    exact h1 rfl B F1 H1 σ' _ r1 ⟨fun σ2 F2 H2 e2 r2 g2 h => ff σ2 F2 H2 e2 r2 g2 h, fun v σ2 F2 H2 e2 d r2 g2 rv h => f.r v σ2 F2 H2 e2 d r2 (g'.trans (g1.trans g2)) rv h, fun σ2 F2 H2 e2 r2 g2 h => f.n σ2 F2 H2 e2 r2 (g'.trans (g1.trans g2)) h, fun σ2 F2 H2 e2 r2 g2 h => ff σ2 F2 H2 e2 r2 g2 h⟩
  | false => exact iteF (f.n σ' F1 H1 e1 r1 (g'.trans g1) (h2 rfl))
theorem ev_split {x y : Str} (ha : Ev K te env (.str x) env1) (hb : Ev K tb env1 (.str y) env2) (hy : (y.length == 0) = false) (hx : x.length ≤ 90000) : Ev K (tM1 rSplit te tb) env (.lst ((Txt.split x y).map .str)) env2 := fun B F H σ s Q q =>
  ha B F H σ s _ fun v F1 H1 s1 g1 r1 => ⟨⟨x, r1⟩, hb B F1 H1 σ s1 _ fun w F2 H2 s2 g2 r2 => ⟨x, y, r1, by rw [show w = .str y from r2], hy, Nat.le_trans (show x.length + 2 ≤ 100000 by omega) (by decide), fun p hp => by
    have u := Up.new (o := .lst ((Txt.split x y).map V.str)) s2.fh hp
    exact q _ _ _ (s2.up u) ((g1.trans g2).trans (.of_up s2.bh u)) ⟨p, _, rfl, upd_same, RepL.of_strs⟩⟩⟩
theorem ev_join {x : Str} {ys : List Str} (ha : Ev K te env (.str x) env1) (hb : Ev K tb env1 (.lst (ys.map .str)) env2) (hz : (ys.map (·.length)).sum + ys.length * x.length ≤ 16777216) : Ev K (tM1 (rJoin K) te tb) env (.str (Txt.join x ys)) env2 := fun B F H σ s Q q =>
  ha B F H σ s _ fun v F1 H1 s1 g1 r1 => ⟨⟨x, r1⟩, hb B F1 H1 σ s1 _ fun w F2 H2 s2 g2 ⟨p, us, h1, h2, h3⟩ => ⟨x, p, ys, r1, by rw [h1], .inl (by rw [← RepL.strs h3]; exact sq_of (s2.fh _ _ h2)), hz, q _ F2 H2 s2 (g1.trans g2) rfl⟩⟩
theorem ev_lstRg {n : Int} (h : Ev K te env (.int n) env1) (h0 : 0 ≤ n) (h1 : n ≤ 100000) : Ev K (tLstRg (tRg1 te)) env (.lst ((List.range n.toNat).map fun i => D.int (i : Nat))) env1 := fun B F H σ s Q q =>
  h B F H σ s _ fun v F1 H1 s1 g1 r1 => ⟨n, r1, ⟨by omega, by omega, by omega, by omega, by omega⟩, fun p hp => by
    have u := Up.new (o := .lst (rgV 0 n)) s1.fh hp
    refine q _ _ _ (s1.up u) (g1.trans (.of_up s1.bh u)) ⟨p, _, rfl, upd_same, ?_⟩
    have : ∀ m : Nat, ∀ F : Hp, RepL K F ((List.range m).map fun i => D.int (i : Nat)) ((List.range m).map fun i => V.int (0 + (i : Nat))) := fun m F => by
      induction m with
      | zero => rfl
      | succ m ih =>
        rw [List.range_succ, List.map_append, List.map_append]
        exact ih.snoc (show V.int (0 + (m : Int)) = V.int m by rw [Int.zero_add])
    have t := this n.toNat
    unfold rgV
    rw [Int.sub_zero]
    exact t _⟩
/-- a comprehension, by what its turns give -/
theorem en_lc1 {α : Type} {wi : TI} {g : TG} {te : TE} {vs : List Nat} {ds : List D} {Wp : List Slot → Prop} (l : List α) (φ : α → D) (v : α → D) (h : It K wi env ds env1 Wp) (hds : ds = l.map φ)
    (hw : Wp (wipeE env1 vs)) (hl : l.length ≤ 90000)
    (hs : ∀ a, a ∈ l → ∃ e', GD K g vs (φ a) (wipeE env1 vs) e' ∧ Ev K te e' (v a) e') : EvN K (tLc wi g tYes te vs) env (l.map v) env1 := by
  have h2 := en_lc (tt := tYes) (te := te) l φ (fun _ => true) v h hds hw hl fun a ha => by
    obtain ⟨e', g1, h1⟩ := hs a ha
    exact ⟨e', g1, fun B F H σ r Q q => q F H r .refl, fun _ => h1⟩
  have hf : l.filter (fun _ => true) = l := List.filter_eq_self.mpr fun _ _ => rfl
  rwa [hf] at h2
end
/-- a block within that may change one's own -/
theorem RepS.deep2 {B F H : Hp} {σ σ3 : L2.St} {env e' : List Slot} (r : RepS K B F H σ env) (r3 : RepS K B F H σ3 e') (sub : OwnSub e' env) :
    ∃ Bi : Hp, RepS K Bi F H σ3 e' ∧ ∀ F4 H4 e'' env'', RepS K Bi F4 H4 σ3 e'' → Gr Bi F F4 → (∀ (i : Nat) (d : D), env''[i]? = some (Slot.val d) → env[i]? = some (Slot.val d)) →
      (∀ (j : Nat) (q : Addr) (u : OD), env''[j]? = some (Slot.own q u) → ∃ u0, env[j]? = some (Slot.own q u0) ∧ ((∃ j' : Nat, e''[j']? = some (Slot.own q u)) ∨ (u = u0 ∧ ∀ (j' : Nat) (u' : OD), e'[j']? ≠ some (Slot.own q u')))) → env''.length ≤ env.length →
      RepS K B F4 H4 σ env'' ∧ Gr B F F4 ∧
      ∀ a o, (∀ (j : Nat) (u : OD), e'[j]? ≠ some (Slot.own a u)) → H a = some o → H4 a = some o ∧ (F a = none → F4 a = none) := by
  classical
  refine ⟨fun a => if (∃ (j : Nat) (u : OD), e'[j]? = some (Slot.own a u)) then none else H a, ?_, ?_⟩
  · refine ⟨fun a o h => ?_, r3.fh, r3.val, fun j p o h => ?_, r3.sep, r3.len⟩
    · split at h
      · cases h
      · exact h
    · obtain ⟨a1, a2, a3, a4⟩ := r3.own j p o h
      exact ⟨a1, if_pos ⟨j, o, h⟩, a3, a4⟩
  · intro F4 H4 e'' env'' r4 g4 hval hown hlen
    have keep : ∀ a o, (∀ (j : Nat) (u : OD), e'[j]? ≠ some (Slot.own a u)) → H a = some o → H4 a = some o ∧ (F a = none → F4 a = none) := fun a o hn ha => by
      have hb : (if (∃ (j : Nat) (u : OD), e'[j]? = some (Slot.own a u)) then none else H a) = some o := by
        rw [if_neg (fun ⟨j, u, z⟩ => hn j u z)]; exact ha
      exact ⟨r4.bh a o hb, fun hf => g4.no a hf (by rw [hb]; simp)⟩
    have notB : ∀ a o, B a = some o → ∀ (j : Nat) (u : OD), e'[j]? ≠ some (Slot.own a u) := fun a o ha j u z => by
      have := (r3.own j a u z).2.1
      rw [ha] at this; cases this
    refine ⟨⟨fun a o ha => (keep a o (notB a o ha) (r.bh a o ha)).1, r4.fh, fun i d e => let ⟨v, h1, h2⟩ := r.val i d (hval i d e); ⟨v, h1, h2.mono g4.f⟩, fun j p o e => ?_, fun i j p o u e1 e2 => ?_, Nat.le_trans hlen r.len⟩, ⟨g4.f, fun a hf hb => ?_⟩, keep⟩
    · obtain ⟨u0, h0, hc⟩ := hown j p o e
      obtain ⟨a1, a2, a3, a4⟩ := r.own j p u0 h0
      rcases hc with ⟨j', hx⟩ | ⟨rfl, hn⟩
      · obtain ⟨b1, b2, b3, b4⟩ := r4.own j' p o hx
        exact ⟨a1, a2, b3, b4⟩
      · obtain ⟨w, hw⟩ := a4.some
        exact ⟨a1, a2, (keep p w hn hw).2 a3, a4.mono g4.f fun o' ho => (keep p o' hn ho).1⟩
    · obtain ⟨u1, h1, _⟩ := hown i p o e1
      obtain ⟨u2, h2, _⟩ := hown j p u e2
      exact r.sep i j p u1 u2 h1 h2
    · cases hB : B a with
      | none => exact absurd hB hb
      | some o => exact (keep a o (notB a o hB) (r.bh a o hB)).2 hf
/-- .. whose turns change one's own at j: s tells what it holds ahead of each turn, v what each turn gives -/
theorem en_lcO {α : Type} {wi : TI} {g : TG} {te : TE} {vs : List Nat} {env env1 : List Slot} {ds : List D} (l : List α) (φ : α → D) (s : Nat → OD) (v : Nat → D) (j : Nat) (p : Addr) (h : It K wi env ds env1 fun _ => True) (hds : ds = l.map φ)
    (h0 : env1[j]? = some (.own p (s 0))) (hj : j ∉ vs) (hl : l.length ≤ 90000)
    (hs : ∀ i a, l[i]? = some a → ∃ e', GD K g vs (φ a) (wipeE (env1.set j (.own p (s i))) vs) e' ∧ e'[j]? = some (.own p (s i)) ∧ Ev K te e' (v i) (e'.set j (.own p (s (i + 1))))) :
    EvN K (tLc wi g tYes te vs) env ((List.range l.length).map v) (env1.set j (.own p (s l.length))) := fun B F H σ r Q q =>
  h B F H σ r _ fun J F1 H1 r1 g1 W Dl hD => by
    subst hds
    have hlen : (l.map φ).length = l.length := List.length_map _
    have hjl : j < env1.length := (List.getElem?_eq_some_iff.mp h0).1
    have e0 : env1.set j (.own p (s 0)) = env1 := by
      apply List.ext_getElem?
      intro k
      by_cases hk : j = k
      · subst hk; rw [List.getElem?_set_self hjl, h0]
      · rw [List.getElem?_set_ne hk]
    have hpD : p ≠ Dl := fun z => by
      obtain ⟨w, hw⟩ := (r1.own j p _ h0).2.2.2.some
      rw [z, hD] at hw; cases hw
    have nownS : ∀ (o : OD) (k : Nat) (u : OD), (env1.set j (.own p o))[k]? ≠ some (Slot.own Dl u) := fun o k u e => by
      by_cases hk : j = k
      · subst hk; rw [List.getElem?_set_self hjl] at e
        injection e with e; injection e with e _; exact hpD e
      · rw [List.getElem?_set_ne hk] at e
        obtain ⟨w, hw⟩ := (r1.own k Dl u e).2.2.2.some
        rw [hD] at hw; cases hw
    refine ⟨fun i m H' => m = l.length - i ∧ i ≤ l.length ∧ ∃ F' us, RepS K B F' H' σ (env1.set j (.own p (s i))) ∧ Gr B F1 F' ∧ F' Dl = none ∧ H' Dl = some (.lst us) ∧ RepL K F' ((List.range i).map v) us,
      ⟨l.length, by simp, Nat.zero_le _, F1, [], by rw [e0]; exact r1.up (Up.heap r1.fh hD), .refl, fresh_back r1.fh hD, upd_same, by simp; rfl⟩, ?_⟩
    rintro i m H' ⟨rfl, hi, F', us, r', g', hF', hH', hr'⟩
    obtain ⟨w1, w2, w3⟩ := W B F' H' _ _ (r'.wipe vs) trivial g'.f
    by_cases hlt : i < l.length
    · have hlt' : i < (l.map φ).length := by rw [hlen]; exact hlt
      refine .inr ⟨w1 i hlt', fun H'' => ∃ F'' us, RepS K B F'' H'' σ (env1.set j (.own p (s (i + 1)))) ∧ Gr B F1 F'' ∧ F'' Dl = none ∧ H'' Dl = some (.lst us) ∧ RepL K F'' ((List.range (i + 1)).map v) us, fun H2 q => ⟨l.length - (i + 1), by omega, rfl, hlt, q⟩, fun x H2 y => ?_⟩
      have ea : (l.map φ)[i]? = some (φ l[i]) := by rw [List.getElem?_map, List.getElem?_eq_getElem hlt]; rfl
      obtain ⟨F2, u2, rx⟩ := w3 i _ x H2 ea y
      obtain ⟨e', hg, hej, he⟩ := hs i l[i] (List.getElem?_eq_getElem hlt)
      have r2 := r'.up u2
      have g2 : Gr B F1 F2 := g'.trans (.of_up r'.bh u2)
      have sub : OwnSub e' (env1.set j (.own p (s i))) := fun k q o e => by
        rcases wipeE_get (hg.sub k q o e) with z | ⟨_, y⟩
        · cases z
        · exact y
      have nown : ∀ (k : Nat) (o : OD), e'[k]? ≠ some (Slot.own Dl o) := fun k o e => nownS _ k o (sub k Dl o e)
      have hF2D : F2 Dl = none := u2.no Dl hF' (by rw [hH']; simp)
      refine hg.run B F2 H2 _ x (r2.wipe vs) rx _ fun σ3 r3 hl3 hk3 => ⟨wipe_eq hl3 hk3, ?_⟩
      obtain ⟨Bi, ri, back⟩ := r2.deep2 r3 sub
      unfold tYes
      dsimp only
      rw [if_pos rfl]
      refine he Bi F2 H2 σ3 ri _ fun y F5 H5 r5 g5 ry => ?_
      have hjl' : j < e'.length := (List.getElem?_eq_some_iff.mp hej).1
      obtain ⟨k1, k2, k3⟩ := back F5 H5 _ (env1.set j (.own p (s (i + 1)))) r5 g5 (fun k d e => by
        by_cases hk : j = k
        · subst hk; rw [List.getElem?_set_self hjl] at e; cases e
        · rw [List.getElem?_set_ne hk] at e ⊢; exact e) (fun k q u e => by
        by_cases hk : j = k
        · subst hk
          rw [List.getElem?_set_self hjl] at e
          injection e with e
          injection e with e1 e2
          subst e1 e2
          exact ⟨s i, List.getElem?_set_self hjl, .inl ⟨j, List.getElem?_set_self hjl'⟩⟩
        · rw [List.getElem?_set_ne hk] at e
          have e3 : (env1.set j (.own p (s i)))[k]? = some (Slot.own q u) := by rw [List.getElem?_set_ne hk]; exact e
          refine ⟨u, e3, ?_⟩
          by_cases hx : ∃ (j' : Nat) (u' : OD), e'[j']? = some (Slot.own q u')
          · obtain ⟨j', u', hx⟩ := hx
            have hy := sub j' q u' hx
            have hkj : k = j' := r2.sep k j' q u u' e3 hy
            subst hkj
            rw [e3] at hy
            injection hy with hy
            injection hy with _ hy
            subst hy
            exact .inl ⟨k, by rw [List.getElem?_set_ne hk]; exact hx⟩
          · exact .inr ⟨rfl, fun j' u' z => hx ⟨j', u', z⟩⟩) (by simp)
      obtain ⟨k4, k5⟩ := k3 Dl _ nown (u2.h _ _ hH')
      refine ⟨us, k4, sz_lt ?_, F5, us ++ [y], ⟨k1.bh.mut (fresh_back r1.bh hD), k1.fh.mut (k5 hF2D), k1.val, fun k a o e => ?_, k1.sep, k1.len⟩, g2.trans k2, k5 hF2D, upd_same, ?_⟩
      · rw [hr'.len, List.length_map, List.length_range]; omega
      · obtain ⟨a1, a2, a3, a4⟩ := k1.own k a o e
        refine ⟨a1, a2, a3, a4.mono (.refl _) fun o' ho => ?_⟩
        have ne : a ≠ Dl := fun z => nownS _ k o (z ▸ e)
        rw [upd_ne ne]; exact ho
      · rw [List.range_succ, List.map_append]
        exact (hr'.mono (u2.f.trans g5.f)).snoc ry
    · have hi' : i = l.length := by omega
      subst hi'
      rw [hlen] at w2
      refine .inl ⟨w2, q Dl us F' H' r' (g1.trans g') (fresh_back r1.bh hD) hF' (fun k o e => nownS _ k o e) hH' hr'⟩
end Dl

set_option Elab.async false
set_option linter.all false
set_option maxRecDepth 100000
set_option maxHeartbeats 4000000
set_option autoImplicit false
/-! Op3: comprehensions by the kind of what they give; small helps. -/
namespace Dl
open PySem L2 Evl StX PyProof.Rows
variable {K : PySem.W.Frag}
section
variable {α : Type} {wi : TI} {g : TG} {te : TE} {tt : TT} {vs : List Nat} {env env1 : List Slot} {ds : List D} {Wp : List Slot → Prop}
theorem en_is {xs ys : List D} (h : EvN K te env xs env1) (e : xs = ys) : EvN K te env ys env1 := e ▸ h
theorem et_yes : EvT K tYes env true env := fun B F H σ r Q q => q F H r .refl
theorem en_lc1I (l : List α) (φ : α → D) (f : α → Int) (h : It K wi env ds env1 Wp) (hds : ds = l.map φ) (hw : Wp (wipeE env1 vs)) (hl : l.length ≤ 90000)
    (hs : ∀ a, a ∈ l → ∃ e', GD K g vs (φ a) (wipeE env1 vs) e' ∧ Ev K te e' (.int (f a)) e') : EvN K (tLc wi g tYes te vs) env ((l.map f).map .int) env1 :=
  en_is (en_lc1 l φ (fun a => .int (f a)) h hds hw hl hs) (by rw [List.map_map]; rfl)
theorem en_lc1B (l : List α) (φ : α → D) (f : α → Bool) (h : It K wi env ds env1 Wp) (hds : ds = l.map φ) (hw : Wp (wipeE env1 vs)) (hl : l.length ≤ 90000)
    (hs : ∀ a, a ∈ l → ∃ e', GD K g vs (φ a) (wipeE env1 vs) e' ∧ Ev K te e' (.bl (f a)) e') : EvN K (tLc wi g tYes te vs) env ((l.map f).map .bl) env1 :=
  en_is (en_lc1 l φ (fun a => .bl (f a)) h hds hw hl hs) (by rw [List.map_map]; rfl)
theorem en_lc1S (l : List α) (φ : α → D) (f : α → Str) (h : It K wi env ds env1 Wp) (hds : ds = l.map φ) (hw : Wp (wipeE env1 vs)) (hl : l.length ≤ 90000)
    (hs : ∀ a, a ∈ l → ∃ e', GD K g vs (φ a) (wipeE env1 vs) e' ∧ Ev K te e' (.str (f a)) e') : EvN K (tLc wi g tYes te vs) env ((l.map f).map .str) env1 :=
  en_is (en_lc1 l φ (fun a => .str (f a)) h hds hw hl hs) (by rw [List.map_map]; rfl)
theorem en_lcI (l : List α) (φ : α → D) (b : α → Bool) (f : α → Int) (h : It K wi env ds env1 Wp) (hds : ds = l.map φ) (hw : Wp (wipeE env1 vs)) (hl : l.length ≤ 90000)
    (hs : ∀ a, a ∈ l → ∃ e', GD K g vs (φ a) (wipeE env1 vs) e' ∧ EvT K tt e' (b a) e' ∧ (b a = true → Ev K te e' (.int (f a)) e')) : EvN K (tLc wi g tt te vs) env (((l.filter b).map f).map .int) env1 :=
  en_is (en_lc l φ b (fun a => .int (f a)) h hds hw hl hs) (by rw [List.map_map]; rfl)
theorem en_lcS (l : List α) (φ : α → D) (b : α → Bool) (f : α → Str) (h : It K wi env ds env1 Wp) (hds : ds = l.map φ) (hw : Wp (wipeE env1 vs)) (hl : l.length ≤ 90000)
    (hs : ∀ a, a ∈ l → ∃ e', GD K g vs (φ a) (wipeE env1 vs) e' ∧ EvT K tt e' (b a) e' ∧ (b a = true → Ev K te e' (.str (f a)) e')) : EvN K (tLc wi g tt te vs) env (((l.filter b).map f).map .str) env1 :=
  en_is (en_lc l φ b (fun a => .str (f a)) h hds hw hl hs) (by rw [List.map_map]; rfl)
end
section
variable {env env1 env2 : List Slot} {P : Post} {tt : TT} {tu z : TS} {te : TE}
theorem st_chk {b : Bool} (h : EvT K tt env b env1) (hb : b = false) (k : P.n env1) : St K (tIfS tt tNever tNext) env P := by
  subst hb
  exact st_if h (fun h => nomatch h) fun _ => st_next k
theorem q_no {b : Bool} (h : EvT K tt env b env1) (hb : b = false) (k : St K z env1 P) : St K (tSeq (tIfS tt tu tNext) z) env P := by
  subst hb
  exact q_when h (fun h => nomatch h) fun _ => k
theorem q_tup {n : Nat} {t : TGs} {ds : List D} (h : Ev K te env (.tup ds) env1) (hg : GsD K t (List.range 40) ds env1 env2) (hn : ds.length = n) (k : St K z env2 P) : St K (tSeq (tAsg te (gTup K n t)) z) env P := q (gtup_asg h hg hn k)
theorem q_next (h : St K z env P) : St K (tSeq tNext z) env P := q (st_next h)
end
theorem log_le {i : Int} {n : Nat} (h : i.natAbs < 2 ^ (n + 1)) : i.natAbs.log2 ≤ n := by
  by_cases h0 : i.natAbs = 0
  · rw [h0]; exact Nat.zero_le _
  · exact Nat.le_of_lt_succ ((Nat.log2_lt h0).mpr h)
theorem ex2 {α : Type} {p q : α → Prop} {e : α} (h1 : p e) (h2 : q e) : ∃ e, p e ∧ q e := ⟨e, h1, h2⟩
theorem ex3 {α : Type} {p q r : α → Prop} {e : α} (h1 : p e) (h2 : q e) (h3 : r e) : ∃ e, p e ∧ q e ∧ r e := ⟨e, h1, h2, h3⟩
/-- far below every bound -/
def Sm (i : Int) : Prop := -1000000000000000000000000000000 < i ∧ i < 1000000000000000000000000000000
theorem Sm.log {i : Int} (h : Sm i) : i.natAbs.log2 ≤ 100 := log_le (by obtain ⟨h1, h2⟩ := h; omega)
theorem mul_sm {i j : Int} (h1 : Sm i) (h2 : Sm j) : i.natAbs.log2 + j.natAbs.log2 < 1000000 := by have := h1.log; have := h2.log; omega
theorem log_sm {i : Int} (h1 : Sm i) : i.natAbs.log2 < 1920 := by have := h1.log; omega
theorem log_sm2 {i : Int} (h1 : Sm i) : i.natAbs.log2 < 9000 := by have := h1.log; omega
end Dl

set_option Elab.async false
set_option linter.all false
set_option maxRecDepth 100000
set_option maxHeartbeats 4000000
set_option autoImplicit false
/-! Gu: (a, b, ..) = a tuple or a list; own things that stand in the frame. -/
namespace L2
open PySem PySem.Spec PyProof.Rows
/-- (a, b, ..) = a tuple or a list of that length -/
def gU (K : PySem.W.Frag) (n : Nat) (t : TGs) : TG := fun v σ H Q => gTup K n t v σ H Q ∨ gLst K n t v σ H Q
theorem pg_gU {X : Cx} {pos : Pos} {es : List Expr} {k : Nat} {t : TGs} {n : Nat} (hc : X.calm = true) (h : PGs X es t)
    (hn : (assignEach es X.env).length = n := by rfl) (hst : (assignEach es X.env).findIdx? (·.1) = none := by rfl) : PG X (.Tuple es k pos) (gU X.K n t) :=
  ⟨fun pins s σ H v u Q I r hw => hw.elim ((pg_tup hc h hn hst).run pins s σ H v u Q I r) ((pg_lst hc h hn hst).run pins s σ H v u Q I r)⟩
end L2
namespace Dl
open PySem L2 Evl
variable {K : PySem.W.Frag}
section
variable {e e1 e2 : List Slot} {d : D} {vs : List Nat}
theorem gd_tupU {n : Nat} {t : TGs} {ds : List D} (h : GsD K t vs ds e e1) (hn : ds.length = n) : GD K (gU K n t) vs (.tup ds) e e1 := ⟨h.sub, fun B F H σ x r ⟨a, us, h1, h2, h3⟩ Q q =>
  .inl ⟨a, us, h1, ex_t r.fh h2, by rw [h3.len]; exact hn, h.run B F H σ us r h3 _ q⟩⟩
theorem gd_lstU {n : Nat} {t : TGs} {ds : List D} (h : GsD K t vs ds e e1) (hn : ds.length = n) : GD K (gU K n t) vs (.lst ds) e e1 := ⟨h.sub, fun B F H σ x r ⟨a, us, h1, h2, h3⟩ Q q =>
  .inr ⟨a, us, h1, sq_of (r.fh _ _ h2), by rw [h3.len]; exact hn, h.run B F H σ us r h3 _ q⟩⟩
theorem st_asgG {te : TE} {g : TG} {env env1 env2 : List Slot} {P : Post} (h : Ev K te env d env1) (hg : GD K g vs d env1 env2) (k : P.n env2) : St K (tAsg te g) env P := fun B F H σ E r f =>
  h B F H σ r _ fun v F1 H1 r1 g1 rv => hg.run B F1 H1 σ v r1 rv _ fun σ' r' _ _ => f.n σ' F1 H1 env2 r' g1 k
theorem q_tupU {te : TE} {n : Nat} {t : TGs} {z : TS} {ds : List D} {env env1 env2 : List Slot} {P : Post} (h : Ev K te env (.tup ds) env1) (hg : GsD K t (List.range 40) ds env1 env2) (hn : ds.length = n) (k : St K z env2 P) : St K (tSeq (tAsg te (gU K n t)) z) env P := q (st_asgG h (gd_tupU hg hn) k)
theorem q_lstU {te : TE} {n : Nat} {t : TGs} {z : TS} {ds : List D} {env env1 env2 : List Slot} {P : Post} (h : Ev K te env (.lst ds) env1) (hg : GsD K t (List.range 40) ds env1 env2) (hn : ds.length = n) (k : St K z env2 P) : St K (tSeq (tAsg te (gU K n t)) z) env P := q (st_asgG h (gd_lstU hg hn) k)
end
end Dl

set_option Elab.async false
set_option linter.all false
set_option maxRecDepth 100000
set_option maxHeartbeats 4000000
set_option autoImplicit false
/-! Rw: steps told over heaps: all that stands is the frame. -/
namespace Dl
open PySem L2 Evl
variable {K : PySem.W.Frag}
def Slot.plain : Slot → Bool
  | .own _ _ => false
  | _ => true
def NoOwn (env : List Slot) : Prop := env.all Slot.plain = true
theorem NoOwn.no {env : List Slot} (h : NoOwn env) {j : Nat} {p : Addr} {o : OD} : env[j]? ≠ some (Slot.own p o) := fun e => by
  have := List.all_eq_true.mp h _ (List.mem_of_getElem? e)
  cases this
theorem RepS.base {B F H : Hp} {σ : L2.St} {env : List Slot} (r : RepS K B F H σ env) (n : NoOwn env) : RepS K H F H σ env :=
  ⟨.refl _, r.fh, r.val, fun i p o e => (n.no e).elim, r.sep, r.len⟩
abbrev W (K : PySem.W.Frag) (F H : Hp) (σ : L2.St) (env : List Slot) : Prop := RepS K H F H σ env
section
variable {F H : Hp} {σ : L2.St} {env env1 env2 : List Slot} {te : TE} {tt : TT} {ta : TA} {d : D} {z u : TS} {E : Ends}
theorem w_ev (w : W K F H σ env) (h : Ev K te env d env1) (n : NoOwn env1) {Q : VK} (k : ∀ v F1 H1, W K F1 H1 σ env1 → Ex H H1 → Gr H F F1 → Rep K F1 d v → Q v H1) : te σ H Q :=
  h H F H σ w Q fun v F1 H1 r g rv => k v F1 H1 (r.base n) r.bh g rv
theorem w_ea {ds : List D} (w : W K F H σ env) (h : EvA K ta env ds env1) (n : NoOwn env1) {Q : List V → Hp → Prop} (k : ∀ vs F1 H1, W K F1 H1 σ env1 → Ex H H1 → Gr H F F1 → RepL K F1 ds vs → Q vs H1) : ta σ H Q :=
  h H F H σ w Q fun v F1 H1 r g rv => k v F1 H1 (r.base n) r.bh g rv
theorem w_et {x : Bool} (w : W K F H σ env) (h : EvT K tt env x env1) (n : NoOwn env1) {Q : Bool → Hp → Prop} (k : ∀ F1 H1, W K F1 H1 σ env1 → Ex H H1 → Gr H F F1 → Q x H1) : tt σ H Q :=
  h H F H σ w Q fun F1 H1 r g => k F1 H1 (r.base n) r.bh g
theorem w_asg {i : Nat} (w : W K F H σ env) (h : Ev K te env d env1) (n : NoOwn env1) (n2 : NoOwn (env1.set i (.val d))) (k : ∀ v F1 H1, W K F1 H1 (σ.set i (some v)) (env1.set i (.val d)) → Ex H H1 → Gr H F F1 → z E (σ.set i (some v)) H1) :
    tSeq (tAsg te (gName i)) z E σ H := w_ev w h n fun v F1 H1 w1 e g rv => k v F1 H1 ((w1.set rv).base n2) e g
theorem w_no {x : Bool} (w : W K F H σ env) (h : EvT K tt env x env1) (n : NoOwn env1) (hx : x = false) (k : ∀ F1 H1, W K F1 H1 σ env1 → Ex H H1 → Gr H F F1 → z E σ H1) : tSeq (tIfS tt u tNext) z E σ H := by
  subst hx
  exact w_et w h n fun F1 H1 w1 e g => k F1 H1 w1 e g
theorem w_yes {x : Bool} {v : TS} (w : W K F H σ env) (h : EvT K tt env x env1) (n : NoOwn env1) (hx : x = true) (k : ∀ F1 H1, W K F1 H1 σ env1 → Ex H H1 → Gr H F F1 → u { E with nx := z E } σ H1) : tSeq (tIfS tt u v) z E σ H := by
  subst hx
  exact w_et w h n fun F1 H1 w1 e g => k F1 H1 w1 e g
/-- a look at what stands in the frame: o, at slot i -/
theorem w_peek {i : Nat} {o : D} {x : Bool} {F1 : Hp} (w : W K F H σ env) (n : NoOwn env) (hf : Ex F F1) (h1 : Ex F1 H) (hv : ∃ v, σ[i]? = some (some v) ∧ Rep K F1 o v) (h : EvT K tt (env.set i (.val o)) x env1) {Q : Bool → Hp → Prop}
    (k : ∀ H1, W K F H1 σ env → Ex H H1 → Q x H1) : tt σ H Q := by
  have no2 : NoOwn (env.set i (.val o)) := List.all_eq_true.mpr fun s hs => by
    rcases List.mem_or_eq_of_mem_set hs with z | z
    · exact List.all_eq_true.mp n s z
    · subst z; rfl
  refine h H F1 H σ ⟨.refl _, h1, fun j d e => ?_, fun j p o e => (no2.no e).elim, fun j k p o u e _ => (no2.no e).elim, by simpa using w.len⟩ Q fun F2 H2 r g => k H2 ⟨.refl _, w.fh.trans r.bh, w.val, fun j p o e => (n.no e).elim, w.sep, w.len⟩ r.bh
  by_cases hj : i = j
  · subst hj
    have hl : i < env.length := by
      rcases Nat.lt_or_ge i env.length with z | z
      · exact z
      · rw [List.getElem?_eq_none (by simpa using z)] at e; cases e
    rw [List.getElem?_set_self hl] at e
    cases e
    exact hv
  · rw [List.getElem?_set_ne hj] at e
    obtain ⟨v, h1, h2⟩ := w.val j d e
    exact ⟨v, h1, h2.mono hf⟩
theorem w_noP {i : Nat} {o : D} {x : Bool} {F1 : Hp} (w : W K F H σ env) (n : NoOwn env) (hf : Ex F F1) (h1 : Ex F1 H) (hv : ∃ v, σ[i]? = some (some v) ∧ Rep K F1 o v) (h : EvT K tt (env.set i (.val o)) x env1) (hx : x = false)
    (k : ∀ H1, W K F H1 σ env → Ex H H1 → z E σ H1) : tSeq (tIfS tt u tNext) z E σ H := by
  subst hx
  exact w_peek w n hf h1 hv h fun H1 w1 e => k H1 w1 e
theorem w_var {i : Nat} {d : D} (w : W K F H σ env) (h : env[i]? = some (Slot.val d)) {Q : VK} (k : ∀ v, Rep K F d v → Q v H) : tVar i σ H Q := by
  obtain ⟨v, h1, h2⟩ := w.val i d h
  exact ⟨v, h1, k v h2⟩
theorem w_start {ds : List D} {vs : List V} {N : List Str} (e : Ex F H) (r : RepL K F ds vs) : W K F H (L2.start N vs) (ds.map Slot.val ++ List.replicate (N.length - ds.length) .no) := by
  unfold L2.start
  rw [r.len]
  exact repS_start _ e r
end
theorem w_up {F H H' : Hp} {σ : L2.St} {env : List Slot} (w : W K F H σ env) (n : NoOwn env) (e : Ex F H') : W K F H' σ env := ⟨.refl _, e, w.val, fun i p o h => (n.no h).elim, w.sep, w.len⟩
/-- a walk whose turns are told over heaps -/
theorem w_for {wi : TI} {g : TG} {tb : TS} {F H : Hp} {σ : L2.St} {env env1 : List Slot} {ds : List D} {Wp : List Slot → Prop} {vs : List Nat} {E : Ends} (w : W K F H σ env) (h : It K wi env ds env1 Wp) (n : NoOwn env1)
    (k : ∀ F1 H1, W K F1 H1 σ env1 → Ex H H1 → Gr H F F1 → ∃ I : Nat → Hp → Hp → L2.St → List Slot → Prop, I 0 F1 H1 σ env1 ∧ (∀ i F2 H2 σ2 e, I i F2 H2 σ2 e → W K F2 H2 σ2 e ∧ Wp e ∧ Ex F1 F2) ∧
      (∀ i d F2 H2 σ2 e, ds[i]? = some d → I i F2 H2 σ2 e → ∃ e', GD K g vs d e e' ∧ NoOwn e' ∧ ∀ F3 H3 σ3, W K F3 H3 σ3 e' → Ex H2 H3 → Gr H2 F2 F3 → ∀ E' : Ends, (∀ F4 H4 σ4 e4, I (i + 1) F4 H4 σ4 e4 → E'.nx σ4 H4) → tb E' σ3 H3) ∧
      (∀ F2 H2 σ2 e, I ds.length F2 H2 σ2 e → E.nx σ2 H2)) : tFor wi g tb E σ H :=
  h H F H σ w _ fun J F1 H1 r1 g1 Wd => by
    obtain ⟨I, i0, i1, hs, hd⟩ := k F1 H1 (r1.base n) r1.bh g1
    refine ⟨fun i m σ' H' => m = ds.length - i ∧ i ≤ ds.length ∧ ∃ F' e, I i F' H' σ' e, ⟨ds.length, by simp, Nat.zero_le _, F1, env1, i0⟩, ?_⟩
    rintro i m σ' H' ⟨rfl, hi, F', e, hI⟩
    obtain ⟨r', hw, hx⟩ := i1 i F' H' σ' e hI
    obtain ⟨w1, w2, w3⟩ := Wd H' F' H' σ' e r' hw hx
    by_cases hlt : i < ds.length
    · refine .inr ⟨w1 i hlt, fun σ'' H'' => ∃ F'' e'', I (i + 1) F'' H'' σ'' e'', fun σ2 H2 p => ⟨ds.length - (i + 1), by omega, rfl, hlt, p⟩, fun x H2 y => ?_⟩
      obtain ⟨F2, u2, rx⟩ := w3 i _ x H2 (List.getElem?_eq_getElem hlt) y
      obtain ⟨e', hg, hn, hb⟩ := hs i _ F' H' σ' e (List.getElem?_eq_getElem hlt) hI
      refine hg.run H' F2 H2 σ' x (r'.up u2) rx _ fun σ3 r3 _ _ => ?_
      exact hb F2 H2 σ3 (r3.base hn) u2.h (.of_up r'.bh u2) _ fun F4 H4 σ4 e4 p => ⟨F4, e4, p⟩
    · have hi' : i = ds.length := by omega
      subst hi'
      exact .inl ⟨w2, hd F' H' σ' e hI⟩
theorem Gr.weak {B B' F F' : Hp} (e : Ex B B') (g : Gr B' F F') : Gr B F F' := ⟨g.f, fun p h k => g.no p h fun z => by
  cases hb : B p with
  | none => exact k hb
  | some o => rw [e p o hb] at z; cases z⟩
theorem Ex.put {F H : Hp} {p : Addr} {o : HO} (e : Ex F H) (h : H p = some o) : Ex (upd F p o) H := fun a u q => by
  by_cases ha : a = p
  · subst ha; rw [upd_same] at q; cases q; exact h
  · rw [upd_ne ha] at q; exact e a u q
/-- reading of a field: the class facts last -/
theorem ev_fldS {C : Addr} {f : Str} {ta : TE} {env env1 : List Slot} {ns : List Str} {os : List D} {d : D} (ho : Ev K ta env (.obj C ns os) env1) (hf : (ns.zip os).lookup f = some d) (c : Cls K C) (hn : NoAttr K C f) : Ev K (tFld K ta f) env d env1 := ev_fld c hn ho hf
/-- d == {} -/
theorem ev_eqE {te : TE} {env env1 : List Slot} {ks : List Key} {ds : List D} (h : Ev K te env (.dic ks ds) env1) : Ev K (tOp (uEq K) te tDNewK) env (.bl ks.isEmpty) env1 := fun B F H σ s Q q =>
  h B F H σ s _ fun x F1 H1 s1 g1 ⟨a, vs, hx, ha, hl, ra⟩ => fun p hp => .inr (.inr ⟨a, p, _, hx, rfl, ex_rd (Ex.new hp) (ex_rd s1.fh ha), upd_same, by
    have u := Up.heap (o := .dK []) s1.fh hp
    refine q _ F1 _ (s1.up u) g1 ?_
    cases ks with
    | nil => rfl
    | cons k ks => cases vs with
      | nil => cases hl
      | cons v vs => rfl⟩)
theorem ev_neE {te : TE} {env env1 : List Slot} {ks : List Key} {ds : List D} (h : Ev K te env (.dic ks ds) env1) : Ev K (tOp (uNe K) te tDNewK) env (.bl !ks.isEmpty) env1 := fun B F H σ s Q q =>
  h B F H σ s _ fun x F1 H1 s1 g1 ⟨a, vs, hx, ha, hl, ra⟩ => fun p hp => .inr (.inr ⟨a, p, _, hx, rfl, ex_rd (Ex.new hp) (ex_rd s1.fh ha), upd_same, by
    have u := Up.heap (o := .dK []) s1.fh hp
    refine q _ F1 _ (s1.up u) g1 ?_
    cases ks with
    | nil => rfl
    | cons k ks => cases vs with
      | nil => cases hl
      | cons v vs => rfl⟩)
/-- isinstance(o, C), o of the class itself -/
theorem d_isiC {C : Addr} {ns : List Str} {ds : List D} (c : C8.InsC K C) : RAD K (rIsi K) [.obj C ns ds, .adr C] (.bl true) := fun F H vs e ⟨w, ws, h1, h2, w2, ws2, h3, h4, h5⟩ Q q => by
  obtain ⟨a, dx, us, rfl, hc, hl, hr⟩ := h2
  exact ⟨.ref a, w2, .ref C, .ref C, true, by rw [h1, h3, show ws2 = [] from h5], by rw [show w2 = .ref C from h4]; exact .own C, .base (.ins (e _ _ hc) c.cl c.ha c.hn c.htk c.hm), c.me, q _ F H (.refl e) rfl⟩
end Dl

set_option Elab.async false
set_option linter.all false
set_option maxRecDepth 100000
set_option maxHeartbeats 4000000
set_option autoImplicit false
/-! Eq: tuples and lists of ints and texts, compared. -/
namespace Dl
open PySem L2 Evl
variable {K : PySem.W.Frag}
theorem pures_strs : ∀ {ns : List Str}, D.pures (ns.map D.str) = true
  | [] => rfl
  | n :: ns => by rw [List.map_cons, D.pures, pures_strs]; rfl
theorem pures_ints : ∀ {ns : List Int}, D.pures (ns.map D.int) = true
  | [] => rfl
  | n :: ns => by rw [List.map_cons, D.pures, pures_ints]; rfl
theorem pys_strs : ∀ {ns : List Str}, D.pys (ns.map D.str) = ns.map PyData.str
  | [] => rfl
  | n :: ns => by rw [List.map_cons, D.pys, pys_strs]; rfl
theorem pys_ints : ∀ {ns : List Int}, D.pys (ns.map D.int) = ns.map PyData.int
  | [] => rfl
  | n :: ns => by rw [List.map_cons, D.pys, pys_ints]; rfl
theorem eqv_str {x y : Str} : PyData.eqv (.str x) (.str y) = decide (x = y) := by
  show (x == y) = _
  rw [Bool.eq_iff_iff]; simp
theorem eqv_int {x y : Int} : PyData.eqv (.int x) (.int y) = decide (x = y) := by
  show (x == y) = _
  rw [Bool.eq_iff_iff]; simp
theorem eqvAll_strs : ∀ {xs ys : List Str}, PyData.eqvAll (xs.map PyData.str) (ys.map PyData.str) = decide (xs = ys)
  | [], [] => rfl
  | [], _ :: _ => by simp [PyData.eqvAll]
  | _ :: _, [] => by simp [PyData.eqvAll]
  | x :: xs, y :: ys => by rw [List.map_cons, List.map_cons, PyData.eqvAll, eqvAll_strs, eqv_str]; simp
theorem eqvAll_ints : ∀ {xs ys : List Int}, PyData.eqvAll (xs.map PyData.int) (ys.map PyData.int) = decide (xs = ys)
  | [], [] => rfl
  | [], _ :: _ => by simp [PyData.eqvAll]
  | _ :: _, [] => by simp [PyData.eqvAll]
  | x :: xs, y :: ys => by rw [List.map_cons, List.map_cons, PyData.eqvAll, eqvAll_ints, eqv_int]; simp
theorem lay_strs : ∀ {xs : List Str}, (∀ x ∈ xs, PyData.strOk x = true) → PyData.canLayAll0 (xs.map PyData.str) = true
  | [], _ => rfl
  | x :: xs, h => by
    rw [List.map_cons, PyData.canLayAll0, lay_strs fun y hy => h y (List.mem_cons_of_mem _ hy), Bool.and_true]
    exact h x List.mem_cons_self
theorem lay_ints : ∀ {xs : List Int}, PyData.canLayAll0 (xs.map PyData.int) = true
  | [] => rfl
  | x :: xs => by rw [List.map_cons, PyData.canLayAll0, lay_ints]; rfl
theorem dep_strs : ∀ {xs : List Str}, PyData.depthAll (xs.map PyData.str) = 0
  | [] => rfl
  | x :: xs => by rw [List.map_cons, PyData.depthAll, dep_strs]; rfl
theorem dep_ints : ∀ {xs : List Int}, PyData.depthAll (xs.map PyData.int) = 0
  | [] => rfl
  | x :: xs => by rw [List.map_cons, PyData.depthAll, dep_ints]; rfl
theorem sh_ts {xs : List Str} (h : ∀ x ∈ xs, PyData.strOk x = true) : SeqAt.shaped (D.py (.tup (xs.map .str))) = true := by
  rw [D.py, pys_strs, SeqAt.shaped, PyData.canLay0, PyData.depth, dep_strs, lay_strs h]; rfl
theorem sh_ls {xs : List Str} (h : ∀ x ∈ xs, PyData.strOk x = true) : SeqAt.shaped (D.py (.lst (xs.map .str))) = true := by
  rw [D.py, pys_strs, SeqAt.shaped, PyData.canLay0, PyData.depth, dep_strs, lay_strs h]; rfl
theorem sh_ti {xs : List Int} : SeqAt.shaped (D.py (.tup (xs.map .int))) = true := by
  rw [D.py, pys_ints, SeqAt.shaped, PyData.canLay0, PyData.depth, dep_ints, lay_ints]; rfl
theorem sh_li {xs : List Int} : SeqAt.shaped (D.py (.lst (xs.map .int))) = true := by
  rw [D.py, pys_ints, SeqAt.shaped, PyData.canLay0, PyData.depth, dep_ints, lay_ints]; rfl
theorem r2_is {r : R2} {a b c c' : D} (h : R2D K r a b c) (e : c = c') : R2D K r a b c' := e ▸ h
theorem d_eqTS {xs ys : List Str} (hx : ∀ x ∈ xs, PyData.strOk x = true) (hy : ∀ x ∈ ys, PyData.strOk x = true) : R2D K (uEq K) (.tup (xs.map .str)) (.tup (ys.map .str)) (.bl (decide (xs = ys))) :=
  r2_is (d_eqD pures_strs pures_strs (sh_ts hx) (sh_ts hy)) (by rw [D.py, D.py, PyData.eqv, pys_strs, pys_strs, eqvAll_strs])
theorem d_eqLS {xs ys : List Str} (hx : ∀ x ∈ xs, PyData.strOk x = true) (hy : ∀ x ∈ ys, PyData.strOk x = true) : R2D K (uEq K) (.lst (xs.map .str)) (.lst (ys.map .str)) (.bl (decide (xs = ys))) :=
  r2_is (d_eqD pures_strs pures_strs (sh_ls hx) (sh_ls hy)) (by rw [D.py, D.py, PyData.eqv, pys_strs, pys_strs, eqvAll_strs])
theorem d_eqTI {xs ys : List Int} : R2D K (uEq K) (.tup (xs.map .int)) (.tup (ys.map .int)) (.bl (decide (xs = ys))) :=
  r2_is (d_eqD pures_ints pures_ints sh_ti sh_ti) (by rw [D.py, D.py, PyData.eqv, pys_ints, pys_ints, eqvAll_ints])
theorem d_neTI {xs ys : List Int} : R2D K (uNe K) (.tup (xs.map .int)) (.tup (ys.map .int)) (.bl (!decide (xs = ys))) :=
  r2_is (d_neD pures_ints pures_ints sh_ti sh_ti) (by rw [D.py, D.py, PyData.eqv, pys_ints, pys_ints, eqvAll_ints])
theorem d_eqLI {xs ys : List Int} : R2D K (uEq K) (.lst (xs.map .int)) (.lst (ys.map .int)) (.bl (decide (xs = ys))) :=
  r2_is (d_eqD pures_ints pures_ints sh_li sh_li) (by rw [D.py, D.py, PyData.eqv, pys_ints, pys_ints, eqvAll_ints])
theorem d_neLI {xs ys : List Int} : R2D K (uNe K) (.lst (xs.map .int)) (.lst (ys.map .int)) (.bl (!decide (xs = ys))) :=
  r2_is (d_neD pures_ints pures_ints sh_li sh_li) (by rw [D.py, D.py, PyData.eqv, pys_ints, pys_ints, eqvAll_ints])
/-- two pairs of ints -/
theorem d_eqT2 {a b c d : Int} : R2D K (uEq K) (.tup [.int a, .int b]) (.tup [.int c, .int d]) (.bl (decide (a = c ∧ b = d))) :=
  r2_is (d_eqTI (xs := [a, b]) (ys := [c, d])) (by simp)
theorem d_neT2 {a b c d : Int} : R2D K (uNe K) (.tup [.int a, .int b]) (.tup [.int c, .int d]) (.bl (!decide (a = c ∧ b = d))) :=
  r2_is (d_neTI (xs := [a, b]) (ys := [c, d])) (by simp)
end Dl

set_option Elab.async false
set_option linter.all false
set_option maxRecDepth 100000
set_option maxHeartbeats 4000000
set_option autoImplicit false
/-! Nl: defs that give a new list, to be changed by the caller. -/
namespace Dl
open PySem L2 Evl
variable {K : PySem.W.Frag}
def spN (K : PySem.W.Frag) (R : List D → List D → Prop) : Sp := fun vs H Q _ => ∃ F ds es, Ex F H ∧ RepL K F ds vs ∧ R ds es ∧ ∀ p us F' H', Up F H F' H' → H p = none → F' p = none → H' p = some (.lst us) → RepL K F' es us → Q (.ref p) H'
theorem spN_len {R : List D → List D → Prop} {n : Nat} (h : ∀ ds es, R ds es → ds.length = n) : ∀ (vs : List V) (H : Hp) (Q : VK) (E : XK), spN K R vs H Q E → vs.length = n := fun vs H Q E ⟨F, ds, d, e, r, hR, q⟩ => by rw [r.len]; exact h ds d hR
theorem en_callN {R : List D → List D → Prop} {E : XK} {t : TA} {env env1 : List Slot} {ds es : List D} (ha : EvA K t env ds env1) (hR : R ds es) : EvN K (tCall (spN K R) [] E t) env es env1 := fun B F H σ s Q q =>
  ha B F H σ s _ fun vs F1 H1 s1 g1 r1 => ⟨F1, ds, es, s1.fh, by rw [List.append_nil]; exact r1, hR, fun p us F' H' u hp hF hH hr => by
    refine q p us F' H' (s1.up u) (g1.trans (.of_up s1.bh u)) (fresh_back s1.bh hp) hF (fun j o e => ?_) hH hr
    obtain ⟨w, hw⟩ := (s1.own j p o e).2.2.2.some
    rw [hp] at hw; cases hw⟩
theorem w_en {F H : Hp} {σ : L2.St} {env env1 : List Slot} {te : TE} {ds : List D} (w : W K F H σ env) (h : EvN K te env ds env1) (n : NoOwn env1) {Q : VK} (k : ∀ p us F1 H1, W K F1 H1 σ env1 → Ex H H1 → Gr H F F1 → H p = none → F1 p = none → H1 p = some (.lst us) → RepL K F1 ds us → Q (.ref p) H1) : te σ H Q :=
  h H F H σ w Q fun p us F1 H1 r g hB hF hn hp hr => k p us F1 H1 (r.base n) r.bh g hB hF hp hr
end Dl

set_option Elab.async false
set_option linter.all false
set_option maxRecDepth 100000
set_option maxHeartbeats 4000000
set_option autoImplicit false
/-! Fin: from what the top has written to the promises. -/
namespace Dl
open PySem L2 Evl StX
variable {K : PySem.W.Frag}
def DefAt (K : PySem.W.Frag) (mg : Str → Option Value) (x : Str) (st : Stmt) : Prop := ∃ f fd, Fun K x x st f fd ∧ mg x = some (.ref f) ∧ PySem.W.keepIn K (.ref f) = true
def MethAt (K : PySem.W.Frag) (C : Addr) (m qual : Str) (st : Stmt) : Prop := ∃ f fd, Fun K m qual st f fd ∧ PySem.W.findIn K (.ref C) m = some (some (.ref f)) ∧ PySem.W.isFn K (.ref f) = true ∧ PySem.W.keepIn K (.ref f) = true
structure ClsAt (K : PySem.W.Frag) (mg : Str → Option Value) (x : Str) (C : Addr) : Prop where
  mg_ : mg x = some (.ref C)
  c : Cls K C
  mk_ : PySem.W.makesIn K C = true
  kp : PySem.W.keepIn K (.ref C) = true
theorem ClsAt.cst {mg : Str → Option Value} {x : Str} {C : Addr} (c : ClsAt K mg x C) : Cst mg x (.ref C) := ⟨_, c.mg_, rfl⟩
theorem mkDef {h : Heap} {mg : Str → Option Value} {x : Str} {st : Stmt} {f : Addr} {oc : Value} {od an : Option Addr} {osl : Array (Option Value)} {kV doc pm cdv ct : Value} (X : K.In h) (G : h.Ns mainGlobals mg)
    (a : PySem.W.nsIn K mainGlobals x = some (some (.ref f))) (l : K.lookup f = some ⟨oc, od, .func (PySem.W.fnOf x x (defArgs st) (defBody st) (defScope st) .none kV doc pm an cdv ct), osl⟩) (c : PySem.W.codeIn K cdv x = true) (k : PySem.W.keepIn K (.ref f) = true) : DefAt K mg x st :=
  ⟨f, _, fun_mk l c k, PySem.W.mg_of X G a, k⟩
theorem mkMeth {C : Addr} {m qual : Str} {st : Stmt} {f : Addr} {oc : Value} {od an : Option Addr} {osl : Array (Option Value)} {kV doc pm cdv ct : Value}
    (a : PySem.W.findIn K (.ref C) m = some (some (.ref f))) (i : PySem.W.isFn K (.ref f) = true) (l : K.lookup f = some ⟨oc, od, .func (PySem.W.fnOf m qual (defArgs st) (defBody st) (defScope st) .none kV doc pm an cdv ct), osl⟩) (c : PySem.W.codeIn K cdv qual = true) (k : PySem.W.keepIn K (.ref f) = true) : MethAt K C m qual st :=
  ⟨f, _, fun_mk l c k, a, i, k⟩
theorem mkCls {h : Heap} {mg : Str → Option Value} {x : Str} {C : Addr} (X : K.In h) (G : h.Ns mainGlobals mg) (a : PySem.W.nsIn K mainGlobals x = some (some (.ref C)))
    (pg : PySem.W.plainGet K C Str.empty = true) (hd : PySem.W.hasDictIn K C = true) (po : PySem.W.plainOver K C = true) (sa : PySem.W.findIn K (.ref C) "__setattr__" = some (some (.builtin "object.__setattr__"))) (mk : PySem.W.makesIn K C = true) (kc : PySem.W.keepIn K (.ref C) = true) : ClsAt K mg x C :=
  ⟨PySem.W.mg_of X G a, ⟨pg, hd, po, sa⟩, mk, kc⟩
theorem mkInt {h : Heap} {mg : Str → Option Value} {x : Str} {i : Int} {t : Tok} (X : K.In h) (G : h.Ns mainGlobals mg) (a : PySem.W.nsIn K mainGlobals x = some (some (.int i t))) : Cst mg x (.int i) := ⟨_, PySem.W.mg_of X G a, t, rfl⟩
theorem mkStr {h : Heap} {mg : Str → Option Value} {x : Str} {i : Str} {t : Tok} (X : K.In h) (G : h.Ns mainGlobals mg) (a : PySem.W.nsIn K mainGlobals x = some (some (.str i t))) : Cst mg x (.str i) := ⟨_, PySem.W.mg_of X G a, t, rfl⟩
theorem mkNo {h : Heap} {mg : Str → Option Value} {x : Str} (X : K.In h) (G : h.Ns mainGlobals mg) (a : PySem.W.nsIn K mainGlobals x = some none) : mg x = none := PySem.W.mg_none_of X G a
section
variable {P : Program} {w : World} {mg : Str → Option Value} {base : Heap} {x m qual : Str} {st : Stmt} {C : Addr} {k : Nat} {ps : List Str} {sp : Sp}
theorem DefAt.df (d : DefAt K mg x st) (ok : ∀ {f : Addr} {fd : FuncData}, Fun K x x st f fd → FnOk P w K mg base CX0 k f fd ps sp)
    (b : ∀ (kV doc pm : Value) (an : Option Addr) (cdv ct : Value) (us : List Value), us.length = ps.length → bindArgs (PySem.W.fnOf x x (defArgs st) (defBody st) (defScope st) .none kV doc pm an cdv ct) ⟨us, []⟩ = pure (ps.zip us)) : Df P w K mg base x k ps sp := by
  obtain ⟨f, fd, F, hm, hk⟩ := d
  exact ⟨f, fd, ok F, hm, hk, F.binds b⟩
theorem MethAt.dm (d : MethAt K C m qual st) (c : Cls K C) (ok : ∀ {f : Addr} {fd : FuncData}, Fun K m qual st f fd → FnOk P w K mg base CX0 k f fd ps sp)
    (b : ∀ (kV doc pm : Value) (an : Option Addr) (cdv ct : Value) (us : List Value), us.length = ps.length → bindArgs (PySem.W.fnOf m qual (defArgs st) (defBody st) (defScope st) .none kV doc pm an cdv ct) ⟨us, []⟩ = pure (ps.zip us)) : Dm P w K mg base C m k ps sp := by
  obtain ⟨f, fd, F, ha, hi, hk⟩ := d
  exact ⟨f, fd, ok F, c, ⟨ha, hi, hk⟩, F.binds b⟩
theorem MethAt.di (d : MethAt K C "__init__" qual st) (c : ClsAt K mg x C) (ok : ∀ {f : Addr} {fd : FuncData}, Fun K "__init__" qual st f fd → FnOk P w K mg base CX0 k f fd ps sp)
    (b : ∀ (kV doc pm : Value) (an : Option Addr) (cdv ct : Value) (us : List Value), us.length = ps.length → bindArgs (PySem.W.fnOf "__init__" qual (defArgs st) (defBody st) (defScope st) .none kV doc pm an cdv ct) ⟨us, []⟩ = pure (ps.zip us)) : Di P w K mg base x C k ps sp := by
  obtain ⟨f, fd, F, ha, hi, hk⟩ := d
  exact ⟨f, fd, ok F, c.mg_, ⟨c.mk_, ha, hi, c.kp⟩, F.binds b⟩
theorem spO_len {R : OD → List D → D → OD → Prop} {n : Nat} (h : ∀ o ds d o', R o ds d o' → ds.length + 1 = n) : ∀ (vs : List V) (H : Hp) (Q : VK) (E : XK), spO K R vs H Q E → vs.length = n := by
  rintro _ H Q E ⟨F, p, o, ds, d, o', ws, rfl, e, hp, ho, r, hR, q⟩
  rw [List.length_cons, r.len]; exact h o ds d o' hR
def spF : Sp := fun _ _ _ _ => False
end
end Dl

set_option Elab.async false
set_option linter.all false
set_option maxRecDepth 100000
set_option maxHeartbeats 4000000
set_option autoImplicit false
/-! printed by gen.py: the defs' readings and what they owe -/
namespace K83
open PySem L2 Evl Dl StX PyProof.Rows
def top (i : Nat) : Stmt := PySem.Challenge.pw_palmsinturn_k83_whole_years_of_plants.main.body.getD i (.Pass ⟨0, 0, 0, 0⟩)

/-- what the top has left, but the defs -/
structure Tx (K : PySem.W.Frag) (mg : Str → Option Value) : Prop where
  c_FIGURES : Cst mg ("FIGURES" : Str) (.str ("0123456789" : Str))
  c_GROVE : Cst mg ("GROVE" : Str) (.str ("grove" : Str))
  c_LAST_DAY : Cst mg ("LAST_DAY" : Str) (.int 999)
  c_LAST_YEAR : Cst mg ("LAST_YEAR" : Str) (.int 9999)
  c_LETTERS : Cst mg ("LETTERS" : Str) (.str ("abcdefghijklmnopqrstuvwxyz" : Str))
  c_MALE : Cst mg ("MALE" : Str) (.str ("male" : Str))
  c_MOST_DATES : Cst mg ("MOST_DATES" : Str) (.int 99)
  c_MOST_EVERY : Cst mg ("MOST_EVERY" : Str) (.int 60)
  c_MOST_HANDS : Cst mg ("MOST_HANDS" : Str) (.int 6)
  c_MOST_KEEP : Cst mg ("MOST_KEEP" : Str) (.int 30)
  c_MOST_LOADS : Cst mg ("MOST_LOADS" : Str) (.int 20)
  c_MOST_LONG : Cst mg ("MOST_LONG" : Str) (.int 60)
  c_MOST_MALES : Cst mg ("MOST_MALES" : Str) (.int 6)
  c_MOST_PALMS : Cst mg ("MOST_PALMS" : Str) (.int 12)
  c_MOST_PLANTS : Cst mg ("MOST_PLANTS" : Str) (.int 60)
  c_MOST_SHIFTS : Cst mg ("MOST_SHIFTS" : Str) (.int 1000)
  c_MOST_SIGNS_groves : Cst mg ("MOST_SIGNS_groves" : Str) (.int 6)
  c_MOST_SIGNS_words : Cst mg ("MOST_SIGNS_words" : Str) (.int 8)
  c_MOST_TURNS : Cst mg ("MOST_TURNS" : Str) (.int 3)
  c_PALM : Cst mg ("PALM" : Str) (.str ("palm" : Str))
  c_SIXTY_bearing : Cst mg ("SIXTY_bearing" : Str) (.int 60)
  c_SIXTY_evening : Cst mg ("SIXTY_evening" : Str) (.int 60)
  b_abs : mg ("abs" : Str) = none
  b_all : mg ("all" : Str) = none
  b_bool : mg ("bool" : Str) = none
  b_enumerate : mg ("enumerate" : Str) = none
  b_int : mg ("int" : Str) = none
  b_isinstance : mg ("isinstance" : Str) = none
  b_len : mg ("len" : Str) = none
  b_list : mg ("list" : Str) = none
  b_max : mg ("max" : Str) = none
  b_min : mg ("min" : Str) = none
  b_range : mg ("range" : Str) = none
  b_sorted : mg ("sorted" : Str) = none
  b_str : mg ("str" : Str) = none
  b_sum : mg ("sum" : Str) = none
  b_tuple : mg ("tuple" : Str) = none
  b_zip : mg ("zip" : Str) = none

abbrev s_is_integer : Stmt := top 16
abbrev N_is_integer : List Str := [("value" : Str)]
theorem sc_is_integer : FnScope N_is_integer [("value" : Str)] (defScope s_is_integer) := ⟨rfl, rfl, rfl, by decide +kernel, rfl, by decide +kernel, by decide +kernel⟩
def t_is_integer (K : PySem.W.Frag) : TS :=
  (tRet ((tAndV (tCB (rIsi K) (tCons (tVar 0) (tCons (tC (.ty "int")) tNil))) (tNotV (tCB (rIsi K) (tCons (tVar 0) (tCons (tC (.ty "bool")) tNil)))))))
theorem ok_is_integer {P : Program} {w : World} {K : PySem.W.Frag} {mg : Str → Option Value} {base : Heap} {sp : Sp} (T : Tx K mg)
    (len : ∀ vs H Q E, sp vs H Q E → vs.length = 1) (hp : ∀ vs H Q E, sp vs H Q E → t_is_integer K { nx := fun _ H' => Q .non H', rt := Q } (L2.start N_is_integer vs) H)
    {f : Addr} {fd : FuncData} (F : Fun K ("is_integer" : Str) ("is_integer" : Str) s_is_integer f fd) : FnOk P w K mg base CX0 1 f fd [("value" : Str)] sp := by
  have nd := sc_is_integer.nd
  refine F.ok sc_is_integer len (fun cdv A outer s H vs Q E hr h => ⟨t_is_integer K, ?_, hp vs H Q E h⟩)
  exact (pss_one (ps_ret ((pe_and (pe_callB call_isi rfl T.b_isinstance (by decide +kernel) (pa_cons (pv 0) (pa_cons (pe_bltn rfl T.b_int (by decide +kernel) rfl) pa_nil))) (pe_one (pe_not (pe_callB call_isi rfl T.b_isinstance (by decide +kernel) (pa_cons (pv 0) (pa_cons (pe_bltn rfl T.b_bool (by decide +kernel) rfl) pa_nil)))))))))

abbrev s_is_between : Stmt := top 17
abbrev N_is_between : List Str := [("value" : Str), ("least" : Str), ("most" : Str)]
theorem sc_is_between : FnScope N_is_between [("value" : Str), ("least" : Str), ("most" : Str)] (defScope s_is_between) := ⟨rfl, rfl, rfl, by decide +kernel, rfl, by decide +kernel, by decide +kernel⟩
def t_is_between (K : PySem.W.Frag) (sp_is_integer : Sp) : TS :=
  (tRet ((tAndV (tCall sp_is_integer [] E0 (tCons (tVar 0) tNil)) (tChain (uLe) (uLe) (tVar 1) (tVar 0) (tVar 2)))))
theorem ok_is_between {P : Program} {w : World} {K : PySem.W.Frag} {mg : Str → Option Value} {base : Heap} {sp : Sp} {sp_is_integer : Sp} (T : Tx K mg) (D_is_integer : Df P w K mg base ("is_integer" : Str) 1 [("value" : Str)] sp_is_integer)
    (len : ∀ vs H Q E, sp vs H Q E → vs.length = 3) (hp : ∀ vs H Q E, sp vs H Q E → t_is_between K sp_is_integer { nx := fun _ H' => Q .non H', rt := Q } (L2.start N_is_between vs) H)
    {f : Addr} {fd : FuncData} (F : Fun K ("is_between" : Str) ("is_between" : Str) s_is_between f fd) : FnOk P w K mg base CX0 2 f fd [("value" : Str), ("least" : Str), ("most" : Str)] sp := by
  have nd := sc_is_between.nd
  refine F.ok sc_is_between len (fun cdv A outer s H vs Q E hr h => ⟨t_is_between K sp_is_integer, ?_, hp vs H Q E h⟩)
  exact (pss_one (ps_ret ((pe_and (pe_callD D_is_integer (hr.mono (by decide)) (pa_cons (pv 0) pa_nil)) (pe_one (pe_chain op_uLe op_uLe (pv 1) (pv 0) (pv 2)))))))

abbrev s_is_name : Stmt := top 18
abbrev N_is_name : List Str := [("value" : Str), ("sign" : Str)]
theorem sc_is_name : FnScope N_is_name [("value" : Str)] (defScope s_is_name) := ⟨rfl, rfl, rfl, by decide +kernel, rfl, by decide +kernel, by decide +kernel⟩
def t_is_name (K : PySem.W.Frag) : TS :=
  (tSeq (tIfS ((tOr (tNot (tB (tCB (rIsi K) (tCons (tVar 0) (tCons (tC (.ty "str")) tNil))))) (tOr (tNot (tTest (tChain (uLt) (uLe) (tC (.int 0)) (tCB (uLen K) (tCons (tVar 0) tNil)) (tC (.int 8))))) (tTest (tOp (uNi K) (tOp (uIx K) (tVar 0) (tC (.int 0))) (tC (.str ("abcdefghijklmnopqrstuvwxyz" : Str)))))))) (tRet (tC (.bl false))) tNext) (tRet (tCB (rAll K) (tCons (tLc (iAny K (tVar 0)) (gName 1) tYes ((tOrV (tOp (uIn K) (tVar 1) (tC (.str ("abcdefghijklmnopqrstuvwxyz" : Str)))) (tOp (uIn K) (tVar 1) (tC (.str ("0123456789" : Str)))))) [1]) tNil))))
theorem ok_is_name {P : Program} {w : World} {K : PySem.W.Frag} {mg : Str → Option Value} {base : Heap} {sp : Sp} (T : Tx K mg)
    (len : ∀ vs H Q E, sp vs H Q E → vs.length = 1) (hp : ∀ vs H Q E, sp vs H Q E → t_is_name K { nx := fun _ H' => Q .non H', rt := Q } (L2.start N_is_name vs) H)
    {f : Addr} {fd : FuncData} (F : Fun K ("is_name" : Str) ("is_name" : Str) s_is_name f fd) : FnOk P w K mg base CX0 1 f fd [("value" : Str)] sp := by
  have nd := sc_is_name.nd
  refine F.ok sc_is_name len (fun cdv A outer s H vs Q E hr h => ⟨t_is_name K, ?_, hp vs H Q E h⟩)
  exact (pss_cons (ps_if (PW.pt (pw_or (pt_not (pt_val (pe_callB call_isi rfl T.b_isinstance (by decide +kernel) (pa_cons (pv 0) (pa_cons (pe_bltn rfl T.b_str (by decide +kernel) rfl) pa_nil))))) (pw_or (pt_not (pt_chain op_uLt op_uLe (pe_int) (pe_callB cr_uLen rfl T.b_len (by decide +kernel) (pa_cons (pv 0) pa_nil)) (pe_cst T.c_MOST_SIGNS_words))) (pw_or1 (pt_cmpR (op_uNi hr.units) (pe_ix (ix_u hr.units) (pv 0) (pe_int) (fun _ _ => rfl)) (pe_cst T.c_LETTERS) (by rfl)))))) (pss_one (ps_ret (pe_bl))) pss_nil) (pss_one (ps_ret (pe_callB (cr_all rfl) rfl T.b_all (by decide +kernel) (pa_cons (pe_lc (own := [(("sign" : Str), 1)]) (g := (gName 1)) (tt := tYes) rfl nd (pi_any (pv 0)) (blkOk_by (N := N_is_name) (sc := defScope s_is_name) (by decide +kernel)) (fun _ _ _ _ _ => (pg_name (i := 1) nd rfl (Or.inl rfl))) (fun _ _ _ _ _ => pts_nil) (fun _ _ _ _ _ => ((pe_or (pe_cmpR (op_uIn hr.units) (pv 1) (pe_cst T.c_LETTERS) (by rfl)) (pe_one (pe_cmpR (op_uIn hr.units) (pv 1) (pe_cst T.c_FIGURES) (by rfl))))))) pa_nil)))))

abbrev s_read_integer : Stmt := top 19
abbrev N_read_integer : List Str := [("word" : Str), ("figures" : Str), ("number" : Str), ("sign" : Str)]
theorem sc_read_integer : FnScope N_read_integer [("word" : Str)] (defScope s_read_integer) := ⟨rfl, rfl, rfl, by decide +kernel, rfl, by decide +kernel, by decide +kernel⟩
def t_read_integer (K : PySem.W.Frag) : TS :=
  (tSeq (tAsg (tIf (tTest (tOp (uEq K) (tSl (uSl K) (tVar 0) tNoPart (tPart (tC (.int 1)))) (tC (.str ("-" : Str))))) (tSl (uSl K) (tVar 0) (tPart (tC (.int 1))) tNoPart) (tVar 0)) (gName 1)) (tSeq (tIfS ((tOr (tTest (tOp (uEq K) (tVar 1) (tC (.str ("" : Str))))) (tOr (tTest (tOp (uGt) (tCB (uLen K) (tCons (tVar 1) tNil)) (tC (.int 9)))) (tNot (tB (tCB (rAll K) (tCons (tLc (iAny K (tVar 1)) (gName 3) tYes (tOp (uIn K) (tVar 3) (tC (.str ("0123456789" : Str)))) [3]) tNil))))))) (tRet (tC .non)) tNext) (tSeq (tAsg (tCB (uInt) (tCons (tVar 0) tNil)) (gName 2)) (tRet (tIf (tTest (tOp (uEq K) (tCB (rStrI) (tCons (tVar 2) tNil)) (tVar 0))) (tVar 2) (tC .non))))))
theorem ok_read_integer {P : Program} {w : World} {K : PySem.W.Frag} {mg : Str → Option Value} {base : Heap} {sp : Sp} (T : Tx K mg)
    (len : ∀ vs H Q E, sp vs H Q E → vs.length = 1) (hp : ∀ vs H Q E, sp vs H Q E → t_read_integer K { nx := fun _ H' => Q .non H', rt := Q } (L2.start N_read_integer vs) H)
    {f : Addr} {fd : FuncData} (F : Fun K ("read_integer" : Str) ("read_integer" : Str) s_read_integer f fd) : FnOk P w K mg base CX0 1 f fd [("word" : Str)] sp := by
  have nd := sc_read_integer.nd
  refine F.ok sc_read_integer len (fun cdv A outer s H vs Q E hr h => ⟨t_read_integer K, ?_, hp vs H Q E h⟩)
  exact (pss_cons (ps_set (i := 1) nd rfl (Or.inl rfl) (pe_ifExp (pt_cmpR (op_uEq hr.units) (pe_slice sl_u (pv 0) po_none (po_some (pe_int))) (pe_str) (nomark _)) (pe_slice sl_u (pv 0) (po_some (pe_int)) po_none) (pv 0))) (pss_cons (ps_if (PW.pt (pw_or (pt_cmpR (op_uEq hr.units) (pv 1) (pe_str) (nomark _)) (pw_or (pt_cmpR op_uGt (pe_callB cr_uLen rfl T.b_len (by decide +kernel) (pa_cons (pv 1) pa_nil)) (pe_int) (nomark _)) (pw_or1 (pt_not (pt_val (pe_callB (cr_all rfl) rfl T.b_all (by decide +kernel) (pa_cons (pe_lc (own := [(("sign" : Str), 3)]) (g := (gName 3)) (tt := tYes) rfl nd (pi_any (pv 1)) (blkOk_by (N := N_read_integer) (sc := defScope s_read_integer) (by decide +kernel)) (fun _ _ _ _ _ => (pg_name (i := 3) nd rfl (Or.inl rfl))) (fun _ _ _ _ _ => pts_nil) (fun _ _ _ _ _ => (pe_cmpR (op_uIn hr.units) (pv 3) (pe_cst T.c_FIGURES) (by rfl)))) pa_nil)))))))) (pss_one (ps_ret (pe_non))) pss_nil) (pss_cons (ps_set (i := 2) nd rfl (Or.inl rfl) (pe_callTy cr_uInt rfl T.b_int (by decide +kernel) (pa_cons (pv 0) pa_nil))) (pss_one (ps_ret (pe_ifExp (pt_cmpR (op_uEq hr.units) (pe_callTy cr_uStr rfl T.b_str (by decide +kernel) (pa_cons (pv 2) pa_nil)) (pv 0) (nomark _)) (pv 2) (pe_non)))))))

abbrev s_common : Stmt := top 20
abbrev N_common : List Str := [("one" : Str), ("other" : Str)]
theorem sc_common : FnScope N_common [("one" : Str), ("other" : Str)] (defScope s_common) := ⟨rfl, rfl, rfl, by decide +kernel, rfl, by decide +kernel, by decide +kernel⟩
def t_common (K : PySem.W.Frag) : TS :=
  (tSeq (tWhile (tTest (tOp (uNe K) (tVar 1) (tC (.int 0)))) (tPar 0 1 (tCons (tVar 1) (tCons (tOp (uMod) (tVar 0) (tVar 1)) tNil)))) (tRet (tCB (rAbs) (tCons (tVar 0) tNil))))
theorem ok_common {P : Program} {w : World} {K : PySem.W.Frag} {mg : Str → Option Value} {base : Heap} {sp : Sp} (T : Tx K mg)
    (len : ∀ vs H Q E, sp vs H Q E → vs.length = 2) (hp : ∀ vs H Q E, sp vs H Q E → t_common K { nx := fun _ H' => Q .non H', rt := Q } (L2.start N_common vs) H)
    {f : Addr} {fd : FuncData} (F : Fun K ("common" : Str) ("common" : Str) s_common f fd) : FnOk P w K mg base CX0 1 f fd [("one" : Str), ("other" : Str)] sp := by
  have nd := sc_common.nd
  refine F.ok sc_common len (fun cdv A outer s H vs Q E hr h => ⟨t_common K, ?_, hp vs H Q E h⟩)
  exact (pss_cons (ps_while PassesOwn.never (pt_cmpR (op_uNe hr.units) (pv 1) (pe_int) (nomark _)) (pss_one (ps_par (i := 0) (j := 1) rfl nd rfl rfl (by decide) rfl rfl (pa_cons (pv 1) (pa_cons (pe_op op_uMod (pv 0) (pv 1)) pa_nil)) (by rfl)))) (pss_one (ps_ret (pe_callB cr_uAbs rfl T.b_abs (by decide +kernel) (pa_cons (pv 0) pa_nil)))))

abbrev s_reduced : Stmt := top 21
abbrev N_reduced : List Str := [("top" : Str), ("low" : Str), ("factor" : Str)]
theorem sc_reduced : FnScope N_reduced [("top" : Str), ("low" : Str)] (defScope s_reduced) := ⟨rfl, rfl, rfl, by decide +kernel, rfl, by decide +kernel, by decide +kernel⟩
def t_reduced (K : PySem.W.Frag) (sp_common : Sp) : TS :=
  (tSeq (tAsg (tIf (tTest (tOp (uGt) (tVar 1) (tC (.int 0)))) (tCall sp_common [] E0 (tCons (tVar 0) (tCons (tVar 1) tNil))) (tOp (uSub) (tC (.int 0)) (tCall sp_common [] E0 (tCons (tVar 0) (tCons (tVar 1) tNil))))) (gName 2)) (tRet (tTup (tCons (tOp (uDiv) (tVar 0) (tVar 2)) (tCons (tOp (uDiv) (tVar 1) (tVar 2)) tNil)))))
theorem ok_reduced {P : Program} {w : World} {K : PySem.W.Frag} {mg : Str → Option Value} {base : Heap} {sp : Sp} {sp_common : Sp} (T : Tx K mg) (D_common : Df P w K mg base ("common" : Str) 1 [("one" : Str), ("other" : Str)] sp_common)
    (len : ∀ vs H Q E, sp vs H Q E → vs.length = 2) (hp : ∀ vs H Q E, sp vs H Q E → t_reduced K sp_common { nx := fun _ H' => Q .non H', rt := Q } (L2.start N_reduced vs) H)
    {f : Addr} {fd : FuncData} (F : Fun K ("reduced" : Str) ("reduced" : Str) s_reduced f fd) : FnOk P w K mg base CX0 2 f fd [("top" : Str), ("low" : Str)] sp := by
  have nd := sc_reduced.nd
  refine F.ok sc_reduced len (fun cdv A outer s H vs Q E hr h => ⟨t_reduced K sp_common, ?_, hp vs H Q E h⟩)
  exact (pss_cons (ps_set (i := 2) nd rfl (Or.inl rfl) (pe_ifExp (pt_cmpR op_uGt (pv 1) (pe_int) (nomark _)) (pe_callD D_common (hr.mono (by decide)) (pa_cons (pv 0) (pa_cons (pv 1) pa_nil))) (pe_op op_uSub (pe_int) (pe_callD D_common (hr.mono (by decide)) (pa_cons (pv 0) (pa_cons (pv 1) pa_nil)))))) (pss_one (ps_ret (pe_tup (pa_cons (pe_op op_uDiv (pv 0) (pv 2)) (pa_cons (pe_op op_uDiv (pv 1) (pv 2)) pa_nil))))))

abbrev s_is_pattern : Stmt := top 37
abbrev N_is_pattern : List Str := [("word" : Str), ("sign" : Str)]
theorem sc_is_pattern : FnScope N_is_pattern [("word" : Str)] (defScope s_is_pattern) := ⟨rfl, rfl, rfl, by decide +kernel, rfl, by decide +kernel, by decide +kernel⟩
def t_is_pattern (K : PySem.W.Frag) : TS :=
  (tRet ((tAndV (tChain (uLt) (uLe) (tC (.int 0)) (tCB (uLen K) (tCons (tVar 0) tNil)) (tC (.int 6))) (tAndV (tCB (rAll K) (tCons (tLc (iAny K (tVar 0)) (gName 1) tYes (tOp (uIn K) (tVar 1) (tC (.str ("01" : Str)))) [1]) tNil)) (tOp (uIn K) (tC (.str ("1" : Str))) (tVar 0))))))
theorem ok_is_pattern {P : Program} {w : World} {K : PySem.W.Frag} {mg : Str → Option Value} {base : Heap} {sp : Sp} (T : Tx K mg)
    (len : ∀ vs H Q E, sp vs H Q E → vs.length = 1) (hp : ∀ vs H Q E, sp vs H Q E → t_is_pattern K { nx := fun _ H' => Q .non H', rt := Q } (L2.start N_is_pattern vs) H)
    {f : Addr} {fd : FuncData} (F : Fun K ("is_pattern" : Str) ("is_pattern" : Str) s_is_pattern f fd) : FnOk P w K mg base CX0 1 f fd [("word" : Str)] sp := by
  have nd := sc_is_pattern.nd
  refine F.ok sc_is_pattern len (fun cdv A outer s H vs Q E hr h => ⟨t_is_pattern K, ?_, hp vs H Q E h⟩)
  exact (pss_one (ps_ret ((pe_and (pe_chain op_uLt op_uLe (pe_int) (pe_callB cr_uLen rfl T.b_len (by decide +kernel) (pa_cons (pv 0) pa_nil)) (pe_cst T.c_MOST_SIGNS_groves)) (pe_and (pe_callB (cr_all rfl) rfl T.b_all (by decide +kernel) (pa_cons (pe_lc (own := [(("sign" : Str), 1)]) (g := (gName 1)) (tt := tYes) rfl nd (pi_any (pv 0)) (blkOk_by (N := N_is_pattern) (sc := defScope s_is_pattern) (by decide +kernel)) (fun _ _ _ _ _ => (pg_name (i := 1) nd rfl (Or.inl rfl))) (fun _ _ _ _ _ => pts_nil) (fun _ _ _ _ _ => (pe_cmpR (op_uIn hr.units) (pv 1) (pe_str) (by rfl)))) pa_nil)) (pe_one (pe_cmpR (op_uIn hr.units) (pe_str) (pv 0) (by rfl))))))))

abbrev s_palm_in : Stmt := top 38
abbrev N_palm_in : List Str := [("words" : Str), ("every" : Str), ("one" : Str), ("other" : Str), ("dates" : Str), ("word" : Str)]
theorem sc_palm_in : FnScope N_palm_in [("words" : Str)] (defScope s_palm_in) := ⟨rfl, rfl, rfl, by decide +kernel, rfl, by decide +kernel, by decide +kernel⟩
def t_palm_in (K : PySem.W.Frag) (sp_read_integer : Sp) (sp_is_between : Sp) (sp_is_day : Sp) (sp_is_pattern : Sp) : TS :=
  (tSeq (tAsg (tLc (iAny K (tSl (uSl K) (tVar 0) tNoPart (tPart (tC (.int 3))))) (gName 5) tYes (tCall sp_read_integer [] E0 (tCons (tVar 5) tNil)) [5]) (gU K 3 (gCons (gName 1) (gCons (gName 2) (gCons (gName 3) gNil))))) (tSeq (tAsg (tCall sp_read_integer [] E0 (tCons (tOp (uIx K) (tVar 0) (tC (.int 4))) tNil)) (gName 4)) (tSeq (tIfS ((tOr (tNot (tB (tCall sp_is_between [] E0 (tCons (tVar 1) (tCons (tC (.int 1)) (tCons (tC (.int 60)) tNil)))))) (tOr (tNot (tB (tCall sp_is_day [] E0 (tCons (tVar 2) tNil)))) (tOr (tNot (tB (tCall sp_is_day [] E0 (tCons (tVar 3) tNil)))) (tTest (tOp (uGt) (tVar 2) (tVar 3))))))) (tRet (tC .non)) tNext) (tSeq (tIfS ((tOr (tNot (tB (tCall sp_is_pattern [] E0 (tCons (tOp (uIx K) (tVar 0) (tC (.int 3))) tNil)))) (tNot (tB (tCall sp_is_between [] E0 (tCons (tVar 4) (tCons (tC (.int 1)) (tCons (tC (.int 99)) tNil)))))))) (tRet (tC .non)) tNext) (tRet (tTup (tCons (tVar 1) (tCons (tVar 2) (tCons (tVar 3) (tCons (tOp (uIx K) (tVar 0) (tC (.int 3))) (tCons (tVar 4) tNil)))))))))))
theorem ok_palm_in {P : Program} {w : World} {K : PySem.W.Frag} {mg : Str → Option Value} {base : Heap} {sp : Sp} {sp_read_integer : Sp} {sp_is_between : Sp} {sp_is_day : Sp} {sp_is_pattern : Sp} (T : Tx K mg) (D_read_integer : Df P w K mg base ("read_integer" : Str) 1 [("word" : Str)] sp_read_integer) (D_is_between : Df P w K mg base ("is_between" : Str) 2 [("value" : Str), ("least" : Str), ("most" : Str)] sp_is_between) (D_is_day : Df P w K mg base ("is_day" : Str) 3 [("value" : Str)] sp_is_day) (D_is_pattern : Df P w K mg base ("is_pattern" : Str) 1 [("word" : Str)] sp_is_pattern)
    (len : ∀ vs H Q E, sp vs H Q E → vs.length = 1) (hp : ∀ vs H Q E, sp vs H Q E → t_palm_in K sp_read_integer sp_is_between sp_is_day sp_is_pattern { nx := fun _ H' => Q .non H', rt := Q } (L2.start N_palm_in vs) H)
    {f : Addr} {fd : FuncData} (F : Fun K ("palm_in" : Str) ("palm_in" : Str) s_palm_in f fd) : FnOk P w K mg base CX0 4 f fd [("words" : Str)] sp := by
  have nd := sc_palm_in.nd
  refine F.ok sc_palm_in len (fun cdv A outer s H vs Q E hr h => ⟨t_palm_in K sp_read_integer sp_is_between sp_is_day sp_is_pattern, ?_, hp vs H Q E h⟩)
  exact (pss_cons (ps_asg (pe_lc (own := [(("word" : Str), 5)]) (g := (gName 5)) (tt := tYes) rfl nd (pi_any (pe_slice sl_u (pv 0) po_none (po_some (pe_int)))) (blkOk_by (N := N_palm_in) (sc := defScope s_palm_in) (by decide +kernel)) (fun _ _ _ _ _ => (pg_name (i := 5) nd rfl (Or.inl rfl))) (fun _ _ _ _ _ => pts_nil) (fun _ _ _ _ _ => (pe_callD D_read_integer (hr.mono (by decide)) (pa_cons (pv 5) pa_nil)))) (pg_gU rfl (pgs_cons (pg_name (i := 1) nd rfl (Or.inl rfl)) (pgs_cons (pg_name (i := 2) nd rfl (Or.inl rfl)) (pgs_cons (pg_name (i := 3) nd rfl (Or.inl rfl)) pgs_nil))))) (pss_cons (ps_set (i := 4) nd rfl (Or.inl rfl) (pe_callD D_read_integer (hr.mono (by decide)) (pa_cons (pe_ix (ix_u hr.units) (pv 0) (pe_int) (fun _ _ => rfl)) pa_nil))) (pss_cons (ps_if (PW.pt (pw_or (pt_not (pt_val (pe_callD D_is_between (hr.mono (by decide)) (pa_cons (pv 1) (pa_cons (pe_int) (pa_cons (pe_cst T.c_MOST_EVERY) pa_nil)))))) (pw_or (pt_not (pt_val (pe_callD D_is_day (hr.mono (by decide)) (pa_cons (pv 2) pa_nil)))) (pw_or (pt_not (pt_val (pe_callD D_is_day (hr.mono (by decide)) (pa_cons (pv 3) pa_nil)))) (pw_or1 (pt_cmpR op_uGt (pv 2) (pv 3) (nomark _))))))) (pss_one (ps_ret (pe_non))) pss_nil) (pss_cons (ps_if (PW.pt (pw_or (pt_not (pt_val (pe_callD D_is_pattern (hr.mono (by decide)) (pa_cons (pe_ix (ix_u hr.units) (pv 0) (pe_int) (fun _ _ => rfl)) pa_nil)))) (pw_or1 (pt_not (pt_val (pe_callD D_is_between (hr.mono (by decide)) (pa_cons (pv 4) (pa_cons (pe_int) (pa_cons (pe_cst T.c_MOST_DATES) pa_nil))))))))) (pss_one (ps_ret (pe_non))) pss_nil) (pss_one (ps_ret (pe_tup (pa_cons (pv 1) (pa_cons (pv 2) (pa_cons (pv 3) (pa_cons (pe_ix (ix_u hr.units) (pv 0) (pe_int) (fun _ _ => rfl)) (pa_cons (pv 4) pa_nil))))))))))))

abbrev s_male_in : Stmt := top 39
abbrev N_male_in : List Str := [("words" : Str), ("opens" : Str), ("loads" : Str), ("keep" : Str), ("word" : Str)]
theorem sc_male_in : FnScope N_male_in [("words" : Str)] (defScope s_male_in) := ⟨rfl, rfl, rfl, by decide +kernel, rfl, by decide +kernel, by decide +kernel⟩
def t_male_in (K : PySem.W.Frag) (sp_read_integer : Sp) (sp_is_day : Sp) (sp_is_between : Sp) : TS :=
  (tSeq (tAsg (tLc (iAny K (tVar 0)) (gName 4) tYes (tCall sp_read_integer [] E0 (tCons (tVar 4) tNil)) [4]) (gU K 3 (gCons (gName 1) (gCons (gName 2) (gCons (gName 3) gNil))))) (tSeq (tIfS ((tOr (tNot (tB (tCall sp_is_day [] E0 (tCons (tVar 1) tNil)))) (tOr (tNot (tB (tCall sp_is_between [] E0 (tCons (tVar 2) (tCons (tC (.int 1)) (tCons (tC (.int 20)) tNil)))))) (tNot (tB (tCall sp_is_between [] E0 (tCons (tVar 3) (tCons (tC (.int 0)) (tCons (tC (.int 30)) tNil))))))))) (tRet (tC .non)) tNext) (tRet (tTup (tCons (tVar 1) (tCons (tVar 2) (tCons (tVar 3) tNil)))))))
theorem ok_male_in {P : Program} {w : World} {K : PySem.W.Frag} {mg : Str → Option Value} {base : Heap} {sp : Sp} {sp_read_integer : Sp} {sp_is_day : Sp} {sp_is_between : Sp} (T : Tx K mg) (D_read_integer : Df P w K mg base ("read_integer" : Str) 1 [("word" : Str)] sp_read_integer) (D_is_day : Df P w K mg base ("is_day" : Str) 3 [("value" : Str)] sp_is_day) (D_is_between : Df P w K mg base ("is_between" : Str) 2 [("value" : Str), ("least" : Str), ("most" : Str)] sp_is_between)
    (len : ∀ vs H Q E, sp vs H Q E → vs.length = 1) (hp : ∀ vs H Q E, sp vs H Q E → t_male_in K sp_read_integer sp_is_day sp_is_between { nx := fun _ H' => Q .non H', rt := Q } (L2.start N_male_in vs) H)
    {f : Addr} {fd : FuncData} (F : Fun K ("male_in" : Str) ("male_in" : Str) s_male_in f fd) : FnOk P w K mg base CX0 4 f fd [("words" : Str)] sp := by
  have nd := sc_male_in.nd
  refine F.ok sc_male_in len (fun cdv A outer s H vs Q E hr h => ⟨t_male_in K sp_read_integer sp_is_day sp_is_between, ?_, hp vs H Q E h⟩)
  exact (pss_cons (ps_asg (pe_lc (own := [(("word" : Str), 4)]) (g := (gName 4)) (tt := tYes) rfl nd (pi_any (pv 0)) (blkOk_by (N := N_male_in) (sc := defScope s_male_in) (by decide +kernel)) (fun _ _ _ _ _ => (pg_name (i := 4) nd rfl (Or.inl rfl))) (fun _ _ _ _ _ => pts_nil) (fun _ _ _ _ _ => (pe_callD D_read_integer (hr.mono (by decide)) (pa_cons (pv 4) pa_nil)))) (pg_gU rfl (pgs_cons (pg_name (i := 1) nd rfl (Or.inl rfl)) (pgs_cons (pg_name (i := 2) nd rfl (Or.inl rfl)) (pgs_cons (pg_name (i := 3) nd rfl (Or.inl rfl)) pgs_nil))))) (pss_cons (ps_if (PW.pt (pw_or (pt_not (pt_val (pe_callD D_is_day (hr.mono (by decide)) (pa_cons (pv 1) pa_nil)))) (pw_or (pt_not (pt_val (pe_callD D_is_between (hr.mono (by decide)) (pa_cons (pv 2) (pa_cons (pe_int) (pa_cons (pe_cst T.c_MOST_LOADS) pa_nil)))))) (pw_or1 (pt_not (pt_val (pe_callD D_is_between (hr.mono (by decide)) (pa_cons (pv 3) (pa_cons (pe_int) (pa_cons (pe_cst T.c_MOST_KEEP) pa_nil)))))))))) (pss_one (ps_ret (pe_non))) pss_nil) (pss_one (ps_ret (pe_tup (pa_cons (pv 1) (pa_cons (pv 2) (pa_cons (pv 3) pa_nil))))))))

abbrev s_GroveReader___init__ : Stmt := inClass (top 40) 0
abbrev N_GroveReader___init__ : List Str := [("self" : Str)]
theorem sc_GroveReader___init__ : FnScope N_GroveReader___init__ [("self" : Str)] (defScope s_GroveReader___init__) := ⟨rfl, rfl, rfl, by decide +kernel, rfl, by decide +kernel, by decide +kernel⟩
def t_GroveReader___init__ (K : PySem.W.Frag) : TS :=
  (tSeq (sFld K (tVar 0) (tC .non) ("own_head" : Str)) (tSeq (sFld K (tVar 0) (tDNewK) ("own_palms" : Str)) (sFld K (tVar 0) (tDNewK) ("own_males" : Str))))
theorem ok_GroveReader___init__ {P : Program} {w : World} {K : PySem.W.Frag} {mg : Str → Option Value} {base : Heap} {sp : Sp} (T : Tx K mg)
    (len : ∀ vs H Q E, sp vs H Q E → vs.length = 1) (hp : ∀ vs H Q E, sp vs H Q E → t_GroveReader___init__ K { nx := fun _ H' => Q .non H', rt := Q } (L2.start N_GroveReader___init__ vs) H)
    {f : Addr} {fd : FuncData} (F : Fun K ("__init__" : Str) ("GroveReader.__init__" : Str) s_GroveReader___init__ f fd) : FnOk P w K mg base CX0 1 f fd [("self" : Str)] sp := by
  have nd := sc_GroveReader___init__.nd
  refine F.ok sc_GroveReader___init__ len (fun cdv A outer s H vs Q E hr h => ⟨t_GroveReader___init__ K, ?_, hp vs H Q E h⟩)
  exact (pss_cons (ps_fld (pv 0) (pe_non) rfl) (pss_cons (ps_fld (pv 0) (pe_dnewK) rfl) (pss_one (ps_fld (pv 0) (pe_dnewK) rfl))))

abbrev s_GroveReader_takes : Stmt := inClass (top 40) 1
abbrev N_GroveReader_takes : List Str := [("self" : Str), ("line" : Str), ("words" : Str), ("found" : Str), ("word" : Str)]
theorem sc_GroveReader_takes : FnScope N_GroveReader_takes [("self" : Str), ("line" : Str)] (defScope s_GroveReader_takes) := ⟨rfl, rfl, rfl, by decide +kernel, rfl, by decide +kernel, by decide +kernel⟩
def t_GroveReader_takes (K : PySem.W.Frag) (C_GroveReader : Addr) (sp_GroveReader_takes_head : Sp) (sp_read_integer : Sp) (sp_GroveReader_is_new : Sp) (sp_palm_in : Sp) (sp_male_in : Sp) : TS :=
  (tSeq (tAsg (tM1 rSplit (tVar 1) (tC (.str (" " : Str)))) (gName 2)) (tSeq (tIfS ((tAnd (tTest (tOp (uEq K) (tOp (uIx K) (tVar 2) (tC (.int 0))) (tC (.str ("grove" : Str))))) (tTest (tOp (uEq K) (tCB (uLen K) (tCons (tVar 2) tNil)) (tC (.int 3)))))) (tRet (tMeth C_GroveReader ("takes_head" : Str) sp_GroveReader_takes_head [] E0 (tVar 0) (tCons (tLc (iAny K (tSl (uSl K) (tVar 2) (tPart (tC (.int 1))) tNoPart)) (gName 4) tYes (tCall sp_read_integer [] E0 (tCons (tVar 4) tNil)) [4]) tNil))) tNext) (tSeq (tIfS ((tOr (tTest (tOp (uIs) (tFld K (tVar 0) ("own_head" : Str)) (tC .non))) (tOr (tTest (tOp (uLt) (tCB (uLen K) (tCons (tVar 2) tNil)) (tC (.int 2)))) (tNot (tB (tMeth C_GroveReader ("is_new" : Str) sp_GroveReader_is_new [] E0 (tVar 0) (tCons (tOp (uIx K) (tVar 2) (tC (.int 1))) tNil))))))) (tRet (tC (.bl false))) tNext) (tSeq (tIfS ((tAnd (tTest (tOp (uEq K) (tOp (uIx K) (tVar 2) (tC (.int 0))) (tC (.str ("palm" : Str))))) (tTest (tOp (uEq K) (tCB (uLen K) (tCons (tVar 2) tNil)) (tC (.int 7)))))) (tSeq (tAsg (tCall sp_palm_in [] E0 (tCons (tSl (uSl K) (tVar 2) (tPart (tC (.int 2))) tNoPart) tNil)) (gName 3)) (tSeq (tIfS ((tOr (tTest (tOp (uIs) (tVar 3) (tC .non))) (tOr (tTest (tOp (uNe K) (tFld K (tVar 0) ("own_males" : Str)) (tDNewK))) (tTest (tOp (uEq K) (tCB (uLen K) (tCons (tFld K (tVar 0) ("own_palms" : Str)) tNil)) (tC (.int 12))))))) (tRet (tC (.bl false))) tNext) (tSeq (tAsg (tVar 3) (gSub (tFld K (tVar 0) ("own_palms" : Str)) (tOp (uIx K) (tVar 2) (tC (.int 1))) uSet)) (tRet (tC (.bl true)))))) tNext) (tSeq (tAsg (tIf ((tAnd (tTest (tOp (uEq K) (tOp (uIx K) (tVar 2) (tC (.int 0))) (tC (.str ("male" : Str))))) (tTest (tOp (uEq K) (tCB (uLen K) (tCons (tVar 2) tNil)) (tC (.int 5)))))) (tCall sp_male_in [] E0 (tCons (tSl (uSl K) (tVar 2) (tPart (tC (.int 2))) tNoPart) tNil)) (tC .non)) (gName 3)) (tSeq (tIfS ((tOr (tTest (tOp (uIs) (tVar 3) (tC .non))) (tOr (tTest (tOp (uEq K) (tFld K (tVar 0) ("own_palms" : Str)) (tDNewK))) (tTest (tOp (uEq K) (tCB (uLen K) (tCons (tFld K (tVar 0) ("own_males" : Str)) tNil)) (tC (.int 6))))))) (tRet (tC (.bl false))) tNext) (tSeq (tAsg (tVar 3) (gSub (tFld K (tVar 0) ("own_males" : Str)) (tOp (uIx K) (tVar 2) (tC (.int 1))) uSet)) (tRet (tC (.bl true))))))))))
theorem ok_GroveReader_takes {P : Program} {w : World} {K : PySem.W.Frag} {mg : Str → Option Value} {base : Heap} {sp : Sp} {C_GroveReader : Addr} {sp_GroveReader_takes_head : Sp} {sp_read_integer : Sp} {sp_GroveReader_is_new : Sp} {sp_palm_in : Sp} {sp_male_in : Sp} (T : Tx K mg) (D_GroveReader_takes_head : Dm P w K mg base C_GroveReader ("takes_head" : Str) 3 [("self" : Str), ("numbers" : Str)] sp_GroveReader_takes_head) (D_read_integer : Df P w K mg base ("read_integer" : Str) 1 [("word" : Str)] sp_read_integer) (D_GroveReader_is_new : Dm P w K mg base C_GroveReader ("is_new" : Str) 2 [("self" : Str), ("name" : Str)] sp_GroveReader_is_new) (D_palm_in : Df P w K mg base ("palm_in" : Str) 4 [("words" : Str)] sp_palm_in) (D_male_in : Df P w K mg base ("male_in" : Str) 4 [("words" : Str)] sp_male_in)
    (len : ∀ vs H Q E, sp vs H Q E → vs.length = 2) (hp : ∀ vs H Q E, sp vs H Q E → t_GroveReader_takes K C_GroveReader sp_GroveReader_takes_head sp_read_integer sp_GroveReader_is_new sp_palm_in sp_male_in { nx := fun _ H' => Q .non H', rt := Q } (L2.start N_GroveReader_takes vs) H)
    {f : Addr} {fd : FuncData} (F : Fun K ("takes" : Str) ("GroveReader.takes" : Str) s_GroveReader_takes f fd) : FnOk P w K mg base CX0 5 f fd [("self" : Str), ("line" : Str)] sp := by
  have nd := sc_GroveReader_takes.nd
  refine F.ok sc_GroveReader_takes len (fun cdv A outer s H vs Q E hr h => ⟨t_GroveReader_takes K C_GroveReader sp_GroveReader_takes_head sp_read_integer sp_GroveReader_is_new sp_palm_in sp_male_in, ?_, hp vs H Q E h⟩)
  exact (pss_cons (ps_set (i := 2) nd rfl (Or.inl rfl) (pe_split (pv 1) (pe_str))) (pss_cons (ps_if (PW.pt (pw_and (pt_cmpR (op_uEq hr.units) (pe_ix (ix_u hr.units) (pv 2) (pe_int) (fun _ _ => rfl)) (pe_cst T.c_GROVE) (nomark _)) (pw_and1 (pt_cmpR (op_uEq hr.units) (pe_callB cr_uLen rfl T.b_len (by decide +kernel) (pa_cons (pv 2) pa_nil)) (pe_int) (nomark _))))) (pss_one (ps_ret (pe_methD D_GroveReader_takes_head (hr.mono (by decide)) (pv 0) (pa_cons (pe_lc (own := [(("word" : Str), 4)]) (g := (gName 4)) (tt := tYes) rfl nd (pi_any (pe_slice sl_u (pv 2) (po_some (pe_int)) po_none)) (blkOk_by (N := N_GroveReader_takes) (sc := defScope s_GroveReader_takes) (by decide +kernel)) (fun _ _ _ _ _ => (pg_name (i := 4) nd rfl (Or.inl rfl))) (fun _ _ _ _ _ => pts_nil) (fun _ _ _ _ _ => (pe_callD D_read_integer (hr.mono (by decide)) (pa_cons (pv 4) pa_nil)))) pa_nil)))) pss_nil) (pss_cons (ps_if (PW.pt (pw_or (pt_cmpR op_uIs (pe_fldD (pv 0)) (pe_non) (nomark _)) (pw_or (pt_cmpR op_uLt (pe_callB cr_uLen rfl T.b_len (by decide +kernel) (pa_cons (pv 2) pa_nil)) (pe_int) (nomark _)) (pw_or1 (pt_not (pt_val (pe_methD D_GroveReader_is_new (hr.mono (by decide)) (pv 0) (pa_cons (pe_ix (ix_u hr.units) (pv 2) (pe_int) (fun _ _ => rfl)) pa_nil)))))))) (pss_one (ps_ret (pe_bl))) pss_nil) (pss_cons (ps_if (PW.pt (pw_and (pt_cmpR (op_uEq hr.units) (pe_ix (ix_u hr.units) (pv 2) (pe_int) (fun _ _ => rfl)) (pe_cst T.c_PALM) (nomark _)) (pw_and1 (pt_cmpR (op_uEq hr.units) (pe_callB cr_uLen rfl T.b_len (by decide +kernel) (pa_cons (pv 2) pa_nil)) (pe_int) (nomark _))))) (pss_cons (ps_set (i := 3) nd rfl (Or.inl rfl) (pe_callD D_palm_in (hr.mono (by decide)) (pa_cons (pe_slice sl_u (pv 2) (po_some (pe_int)) po_none) pa_nil))) (pss_cons (ps_if (PW.pt (pw_or (pt_cmpR op_uIs (pv 3) (pe_non) (nomark _)) (pw_or (pt_cmpR (op_uNe hr.units) (pe_fldD (pv 0)) (pe_dnewK) (nomark _)) (pw_or1 (pt_cmpR (op_uEq hr.units) (pe_callB cr_uLen rfl T.b_len (by decide +kernel) (pa_cons (pe_fldD (pv 0)) pa_nil)) (pe_cst T.c_MOST_PALMS) (nomark _)))))) (pss_one (ps_ret (pe_bl))) pss_nil) (pss_cons (ps_asg (pv 3) (pg_sub (pe_fldD (pv 0)) (pe_ix (ix_u hr.units) (pv 2) (pe_int) (fun _ _ => rfl)) (set_u hr.units))) (pss_one (ps_ret (pe_bl)))))) pss_nil) (pss_cons (ps_set (i := 3) nd rfl (Or.inl rfl) (pe_ifExp (PW.pt (pw_and (pt_cmpR (op_uEq hr.units) (pe_ix (ix_u hr.units) (pv 2) (pe_int) (fun _ _ => rfl)) (pe_cst T.c_MALE) (nomark _)) (pw_and1 (pt_cmpR (op_uEq hr.units) (pe_callB cr_uLen rfl T.b_len (by decide +kernel) (pa_cons (pv 2) pa_nil)) (pe_int) (nomark _))))) (pe_callD D_male_in (hr.mono (by decide)) (pa_cons (pe_slice sl_u (pv 2) (po_some (pe_int)) po_none) pa_nil)) (pe_non))) (pss_cons (ps_if (PW.pt (pw_or (pt_cmpR op_uIs (pv 3) (pe_non) (nomark _)) (pw_or (pt_cmpR (op_uEq hr.units) (pe_fldD (pv 0)) (pe_dnewK) (nomark _)) (pw_or1 (pt_cmpR (op_uEq hr.units) (pe_callB cr_uLen rfl T.b_len (by decide +kernel) (pa_cons (pe_fldD (pv 0)) pa_nil)) (pe_cst T.c_MOST_MALES) (nomark _)))))) (pss_one (ps_ret (pe_bl))) pss_nil) (pss_cons (ps_asg (pv 3) (pg_sub (pe_fldD (pv 0)) (pe_ix (ix_u hr.units) (pv 2) (pe_int) (fun _ _ => rfl)) (set_u hr.units))) (pss_one (ps_ret (pe_bl))))))))))

abbrev s_GroveReader_takes_head : Stmt := inClass (top 40) 2
abbrev N_GroveReader_takes_head : List Str := [("self" : Str), ("numbers" : Str)]
theorem sc_GroveReader_takes_head : FnScope N_GroveReader_takes_head [("self" : Str), ("numbers" : Str)] (defScope s_GroveReader_takes_head) := ⟨rfl, rfl, rfl, by decide +kernel, rfl, by decide +kernel, by decide +kernel⟩
def t_GroveReader_takes_head (K : PySem.W.Frag) (sp_is_between : Sp) : TS :=
  (tSeq (tIfS (tTest (tOp (uNt) (tFld K (tVar 0) ("own_head" : Str)) (tC .non))) (tRet (tC (.bl false))) tNext) (tSeq (tIfS ((tOr (tNot (tB (tCall sp_is_between [] E0 (tCons (tOp (uIx K) (tVar 1) (tC (.int 0))) (tCons (tC (.int 1)) (tCons (tC (.int 3)) tNil)))))) (tNot (tB (tCall sp_is_between [] E0 (tCons (tOp (uIx K) (tVar 1) (tC (.int 1))) (tCons (tC (.int 1)) (tCons (tC (.int 6)) tNil)))))))) (tRet (tC (.bl false))) tNext) (tSeq (sFld K (tVar 0) (tTup (tCons (tOp (uIx K) (tVar 1) (tC (.int 0))) (tCons (tOp (uIx K) (tVar 1) (tC (.int 1))) tNil))) ("own_head" : Str)) (tRet (tC (.bl true))))))
theorem ok_GroveReader_takes_head {P : Program} {w : World} {K : PySem.W.Frag} {mg : Str → Option Value} {base : Heap} {sp : Sp} {sp_is_between : Sp} (T : Tx K mg) (D_is_between : Df P w K mg base ("is_between" : Str) 2 [("value" : Str), ("least" : Str), ("most" : Str)] sp_is_between)
    (len : ∀ vs H Q E, sp vs H Q E → vs.length = 2) (hp : ∀ vs H Q E, sp vs H Q E → t_GroveReader_takes_head K sp_is_between { nx := fun _ H' => Q .non H', rt := Q } (L2.start N_GroveReader_takes_head vs) H)
    {f : Addr} {fd : FuncData} (F : Fun K ("takes_head" : Str) ("GroveReader.takes_head" : Str) s_GroveReader_takes_head f fd) : FnOk P w K mg base CX0 3 f fd [("self" : Str), ("numbers" : Str)] sp := by
  have nd := sc_GroveReader_takes_head.nd
  refine F.ok sc_GroveReader_takes_head len (fun cdv A outer s H vs Q E hr h => ⟨t_GroveReader_takes_head K sp_is_between, ?_, hp vs H Q E h⟩)
  exact (pss_cons (ps_if (pt_cmpR op_uNt (pe_fldD (pv 0)) (pe_non) (nomark _)) (pss_one (ps_ret (pe_bl))) pss_nil) (pss_cons (ps_if (PW.pt (pw_or (pt_not (pt_val (pe_callD D_is_between (hr.mono (by decide)) (pa_cons (pe_ix (ix_u hr.units) (pv 1) (pe_int) (fun _ _ => rfl)) (pa_cons (pe_int) (pa_cons (pe_cst T.c_MOST_TURNS) pa_nil)))))) (pw_or1 (pt_not (pt_val (pe_callD D_is_between (hr.mono (by decide)) (pa_cons (pe_ix (ix_u hr.units) (pv 1) (pe_int) (fun _ _ => rfl)) (pa_cons (pe_int) (pa_cons (pe_cst T.c_MOST_HANDS) pa_nil))))))))) (pss_one (ps_ret (pe_bl))) pss_nil) (pss_cons (ps_fld (pv 0) (pe_tup (pa_cons (pe_ix (ix_u hr.units) (pv 1) (pe_int) (fun _ _ => rfl)) (pa_cons (pe_ix (ix_u hr.units) (pv 1) (pe_int) (fun _ _ => rfl)) pa_nil))) rfl) (pss_one (ps_ret (pe_bl))))))

abbrev s_GroveReader_is_new : Stmt := inClass (top 40) 3
abbrev N_GroveReader_is_new : List Str := [("self" : Str), ("name" : Str)]
theorem sc_GroveReader_is_new : FnScope N_GroveReader_is_new [("self" : Str), ("name" : Str)] (defScope s_GroveReader_is_new) := ⟨rfl, rfl, rfl, by decide +kernel, rfl, by decide +kernel, by decide +kernel⟩
def t_GroveReader_is_new (K : PySem.W.Frag) (sp_is_name : Sp) : TS :=
  (tRet ((tAndV (tCall sp_is_name [] E0 (tCons (tVar 1) tNil)) (tAndV (tOp (uNi K) (tVar 1) (tFld K (tVar 0) ("own_palms" : Str))) (tOp (uNi K) (tVar 1) (tFld K (tVar 0) ("own_males" : Str)))))))
theorem ok_GroveReader_is_new {P : Program} {w : World} {K : PySem.W.Frag} {mg : Str → Option Value} {base : Heap} {sp : Sp} {sp_is_name : Sp} (T : Tx K mg) (D_is_name : Df P w K mg base ("is_name" : Str) 1 [("value" : Str)] sp_is_name)
    (len : ∀ vs H Q E, sp vs H Q E → vs.length = 2) (hp : ∀ vs H Q E, sp vs H Q E → t_GroveReader_is_new K sp_is_name { nx := fun _ H' => Q .non H', rt := Q } (L2.start N_GroveReader_is_new vs) H)
    {f : Addr} {fd : FuncData} (F : Fun K ("is_new" : Str) ("GroveReader.is_new" : Str) s_GroveReader_is_new f fd) : FnOk P w K mg base CX0 2 f fd [("self" : Str), ("name" : Str)] sp := by
  have nd := sc_GroveReader_is_new.nd
  refine F.ok sc_GroveReader_is_new len (fun cdv A outer s H vs Q E hr h => ⟨t_GroveReader_is_new K sp_is_name, ?_, hp vs H Q E h⟩)
  exact (pss_one (ps_ret ((pe_and (pe_callD D_is_name (hr.mono (by decide)) (pa_cons (pv 1) pa_nil)) (pe_and (pe_cmpR (op_uNi hr.units) (pv 1) (pe_fldD (pv 0)) (by rfl)) (pe_one (pe_cmpR (op_uNi hr.units) (pv 1) (pe_fldD (pv 0)) (by rfl))))))))

abbrev s_Grove___init__ : Stmt := inClass (top 41) 0
abbrev N_Grove___init__ : List Str := [("self" : Str), ("text" : Str), ("reader" : Str), ("lines" : Str), ("number" : Str), ("line" : Str)]
theorem sc_Grove___init__ : FnScope N_Grove___init__ [("self" : Str), ("text" : Str)] (defScope s_Grove___init__) := ⟨rfl, rfl, rfl, by decide +kernel, rfl, by decide +kernel, by decide +kernel⟩
def t_Grove___init__ (K : PySem.W.Frag) (C_GroveReader : Addr) (sp_GroveReader___init__ : Sp) (sp_GroveReader_takes : Sp) : TS :=
  (tSeq (tIfS (tNot (tB (tCB (rIsi K) (tCons (tVar 1) (tCons (tC (.ty "str")) tNil))))) (tNever) tNext) (tSeq (tPar 2 3 (tCons (tMake C_GroveReader sp_GroveReader___init__ [] E0 tNil) (tCons (tM1 rSplit (tVar 1) (tC (.str ("\n" : Str)))) tNil))) (tSeq (tFor (iEn K (tCons (tVar 3) tNil)) (gU K 2 (gCons (gName 4) (gCons (gName 5) gNil))) (tIfS (tNot (tB (tMeth C_GroveReader ("takes" : Str) sp_GroveReader_takes [] E0 (tVar 2) (tCons (tVar 5) tNil)))) (tNever) tNext)) (tSeq (tIfS (tTest (tOp (uEq K) (tFld K (tVar 2) ("own_palms" : Str)) (tDNewK))) (tNever) tNext) (tSeq (sFld K (tVar 0) (tVar 1) ("own_text" : Str)) (tSeq (sFld K (tVar 0) (tFld K (tVar 2) ("own_head" : Str)) ("own_head" : Str)) (tSeq (sFld K (tVar 0) (tFld K (tVar 2) ("own_palms" : Str)) ("own_palms" : Str)) (sFld K (tVar 0) (tFld K (tVar 2) ("own_males" : Str)) ("own_males" : Str)))))))))
theorem ok_Grove___init__ {P : Program} {w : World} {K : PySem.W.Frag} {mg : Str → Option Value} {base : Heap} {sp : Sp} {C_GroveReader : Addr} {sp_GroveReader___init__ : Sp} {sp_GroveReader_takes : Sp} (T : Tx K mg) (D_GroveReader___init__ : Di P w K mg base ("GroveReader" : Str) C_GroveReader 1 [("self" : Str)] sp_GroveReader___init__) (D_GroveReader_takes : Dm P w K mg base C_GroveReader ("takes" : Str) 5 [("self" : Str), ("line" : Str)] sp_GroveReader_takes)
    (len : ∀ vs H Q E, sp vs H Q E → vs.length = 2) (hp : ∀ vs H Q E, sp vs H Q E → t_Grove___init__ K C_GroveReader sp_GroveReader___init__ sp_GroveReader_takes { nx := fun _ H' => Q .non H', rt := Q } (L2.start N_Grove___init__ vs) H)
    {f : Addr} {fd : FuncData} (F : Fun K ("__init__" : Str) ("Grove.__init__" : Str) s_Grove___init__ f fd) : FnOk P w K mg base CX0 6 f fd [("self" : Str), ("text" : Str)] sp := by
  have nd := sc_Grove___init__.nd
  refine F.ok sc_Grove___init__ len (fun cdv A outer s H vs Q E hr h => ⟨t_Grove___init__ K C_GroveReader sp_GroveReader___init__ sp_GroveReader_takes, ?_, hp vs H Q E h⟩)
  exact (pss_cons (ps_if (pt_not (pt_val (pe_callB call_isi rfl T.b_isinstance (by decide +kernel) (pa_cons (pv 1) (pa_cons (pe_bltn rfl T.b_str (by decide +kernel) rfl) pa_nil))))) (pss_one (ps_never)) pss_nil) (pss_cons (ps_par (i := 2) (j := 3) rfl nd rfl rfl (by decide) rfl rfl (pa_cons (pe_make0D D_GroveReader___init__ (hr.mono (by decide))) (pa_cons (pe_split (pv 1) (pe_str)) pa_nil)) (by rfl)) (pss_cons (ps_for PassesOwn.never rfl (pi_en rfl T.b_enumerate (pa_cons (pv 3) pa_nil)) (pg_gU rfl (pgs_cons (pg_name (i := 4) nd rfl (Or.inl rfl)) (pgs_cons (pg_name (i := 5) nd rfl (Or.inl rfl)) pgs_nil))) (pss_one (ps_if (pt_not (pt_val (pe_methD D_GroveReader_takes (hr.mono (by decide)) (pv 2) (pa_cons (pv 5) pa_nil)))) (pss_one (ps_never)) pss_nil))) (pss_cons (ps_if (pt_cmpR (op_uEq hr.units) (pe_fldD (pv 2)) (pe_dnewK) (nomark _)) (pss_one (ps_never)) pss_nil) (pss_cons (ps_fld (pv 0) (pv 1) rfl) (pss_cons (ps_fld (pv 0) (pe_fldD (pv 2)) rfl) (pss_cons (ps_fld (pv 0) (pe_fldD (pv 2)) rfl) (pss_one (ps_fld (pv 0) (pe_fldD (pv 2)) rfl)))))))))

abbrev s_Grove___eq__ : Stmt := inClass (top 41) 1
abbrev N_Grove___eq__ : List Str := [("self" : Str), ("other" : Str)]
theorem sc_Grove___eq__ : FnScope N_Grove___eq__ [("self" : Str), ("other" : Str)] (defScope s_Grove___eq__) := ⟨rfl, rfl, rfl, by decide +kernel, rfl, by decide +kernel, by decide +kernel⟩
def t_Grove___eq__ (K : PySem.W.Frag) (C_Grove : Addr) (sp_Grove_text : Sp) : TS :=
  (tRet ((tAndV (tCB (rIsi K) (tCons (tVar 1) (tCons (tC (.ref C_Grove)) tNil))) (tOp (uEq K) (tFld K (tVar 0) ("own_text" : Str)) (tProp C_Grove sp_Grove_text [] E0 (tVar 1))))))
theorem ok_Grove___eq__ {P : Program} {w : World} {K : PySem.W.Frag} {mg : Str → Option Value} {base : Heap} {sp : Sp} {C_Grove : Addr} {sp_Grove_text : Sp} (T : Tx K mg) (c_Grove : Cst mg ("Grove" : Str) (.ref C_Grove)) (D_Grove_text : Dpr P w K mg base C_Grove ("text" : Str) 1 [("self" : Str)] sp_Grove_text)
    (len : ∀ vs H Q E, sp vs H Q E → vs.length = 2) (hp : ∀ vs H Q E, sp vs H Q E → t_Grove___eq__ K C_Grove sp_Grove_text { nx := fun _ H' => Q .non H', rt := Q } (L2.start N_Grove___eq__ vs) H)
    {f : Addr} {fd : FuncData} (F : Fun K ("__eq__" : Str) ("Grove.__eq__" : Str) s_Grove___eq__ f fd) : FnOk P w K mg base CX0 3 f fd [("self" : Str), ("other" : Str)] sp := by
  have nd := sc_Grove___eq__.nd
  refine F.ok sc_Grove___eq__ len (fun cdv A outer s H vs Q E hr h => ⟨t_Grove___eq__ K C_Grove sp_Grove_text, ?_, hp vs H Q E h⟩)
  exact (pss_one (ps_ret ((pe_and (pe_callB call_isi rfl T.b_isinstance (by decide +kernel) (pa_cons (pv 1) (pa_cons (pe_cst (v := .ref C_Grove) c_Grove) pa_nil))) (pe_one (pe_cmpR (op_uEq hr.units) (pe_fldD (pv 0)) (pe_propD D_Grove_text (hr.mono (by decide)) (pv 1)) (nomark _)))))))

abbrev s_Grove_text : Stmt := inClass (top 41) 2
abbrev N_Grove_text : List Str := [("self" : Str)]
theorem sc_Grove_text : FnScope N_Grove_text [("self" : Str)] (defScope s_Grove_text) := ⟨rfl, rfl, rfl, by decide +kernel, rfl, by decide +kernel, by decide +kernel⟩
def t_Grove_text (K : PySem.W.Frag) : TS :=
  (tRet (tFld K (tVar 0) ("own_text" : Str)))
theorem ok_Grove_text {P : Program} {w : World} {K : PySem.W.Frag} {mg : Str → Option Value} {base : Heap} {sp : Sp} (T : Tx K mg)
    (len : ∀ vs H Q E, sp vs H Q E → vs.length = 1) (hp : ∀ vs H Q E, sp vs H Q E → t_Grove_text K { nx := fun _ H' => Q .non H', rt := Q } (L2.start N_Grove_text vs) H)
    {f : Addr} {fd : FuncData} (F : Fun K ("text" : Str) ("Grove.text" : Str) s_Grove_text f fd) : FnOk P w K mg base CX0 1 f fd [("self" : Str)] sp := by
  have nd := sc_Grove_text.nd
  refine F.ok sc_Grove_text len (fun cdv A outer s H vs Q E hr h => ⟨t_Grove_text K, ?_, hp vs H Q E h⟩)
  exact (pss_one (ps_ret (pe_fldD (pv 0))))

abbrev s_Grove_palm_names : Stmt := inClass (top 41) 7
abbrev N_Grove_palm_names : List Str := [("self" : Str)]
theorem sc_Grove_palm_names : FnScope N_Grove_palm_names [("self" : Str)] (defScope s_Grove_palm_names) := ⟨rfl, rfl, rfl, by decide +kernel, rfl, by decide +kernel, by decide +kernel⟩
def t_Grove_palm_names (K : PySem.W.Frag) : TS :=
  (tRet (tCB (uList K) (tCons (tFld K (tVar 0) ("own_palms" : Str)) tNil)))
theorem ok_Grove_palm_names {P : Program} {w : World} {K : PySem.W.Frag} {mg : Str → Option Value} {base : Heap} {sp : Sp} (T : Tx K mg)
    (len : ∀ vs H Q E, sp vs H Q E → vs.length = 1) (hp : ∀ vs H Q E, sp vs H Q E → t_Grove_palm_names K { nx := fun _ H' => Q .non H', rt := Q } (L2.start N_Grove_palm_names vs) H)
    {f : Addr} {fd : FuncData} (F : Fun K ("palm_names" : Str) ("Grove.palm_names" : Str) s_Grove_palm_names f fd) : FnOk P w K mg base CX0 1 f fd [("self" : Str)] sp := by
  have nd := sc_Grove_palm_names.nd
  refine F.ok sc_Grove_palm_names len (fun cdv A outer s H vs Q E hr h => ⟨t_Grove_palm_names K, ?_, hp vs H Q E h⟩)
  exact (pss_one (ps_ret (pe_callTy (cr_uList rfl) rfl T.b_list (by decide +kernel) (pa_cons (pe_fldD (pv 0)) pa_nil))))

abbrev s_Grove_years_of : Stmt := inClass (top 41) 10
abbrev N_Grove_years_of : List Str := [("self" : Str), ("name" : Str)]
theorem sc_Grove_years_of : FnScope N_Grove_years_of [("self" : Str), ("name" : Str)] (defScope s_Grove_years_of) := ⟨rfl, rfl, rfl, by decide +kernel, rfl, by decide +kernel, by decide +kernel⟩
def t_Grove_years_of (K : PySem.W.Frag) : TS :=
  (tRet (tOp (uIx K) (tOp (uIx K) (tFld K (tVar 0) ("own_palms" : Str)) (tVar 1)) (tC (.int 3))))
theorem ok_Grove_years_of {P : Program} {w : World} {K : PySem.W.Frag} {mg : Str → Option Value} {base : Heap} {sp : Sp} (T : Tx K mg)
    (len : ∀ vs H Q E, sp vs H Q E → vs.length = 2) (hp : ∀ vs H Q E, sp vs H Q E → t_Grove_years_of K { nx := fun _ H' => Q .non H', rt := Q } (L2.start N_Grove_years_of vs) H)
    {f : Addr} {fd : FuncData} (F : Fun K ("years_of" : Str) ("Grove.years_of" : Str) s_Grove_years_of f fd) : FnOk P w K mg base CX0 1 f fd [("self" : Str), ("name" : Str)] sp := by
  have nd := sc_Grove_years_of.nd
  refine F.ok sc_Grove_years_of len (fun cdv A outer s H vs Q E hr h => ⟨t_Grove_years_of K, ?_, hp vs H Q E h⟩)
  exact (pss_one (ps_ret (pe_ix (ix_u hr.units) (pe_ix (ix_u hr.units) (pe_fldD (pv 0)) (pv 1) (fun _ _ => rfl)) (pe_int) (fun _ _ => rfl))))

abbrev s_Grove_dates_of : Stmt := inClass (top 41) 11
abbrev N_Grove_dates_of : List Str := [("self" : Str), ("name" : Str)]
theorem sc_Grove_dates_of : FnScope N_Grove_dates_of [("self" : Str), ("name" : Str)] (defScope s_Grove_dates_of) := ⟨rfl, rfl, rfl, by decide +kernel, rfl, by decide +kernel, by decide +kernel⟩
def t_Grove_dates_of (K : PySem.W.Frag) : TS :=
  (tRet (tOp (uIx K) (tOp (uIx K) (tFld K (tVar 0) ("own_palms" : Str)) (tVar 1)) (tC (.int 4))))
theorem ok_Grove_dates_of {P : Program} {w : World} {K : PySem.W.Frag} {mg : Str → Option Value} {base : Heap} {sp : Sp} (T : Tx K mg)
    (len : ∀ vs H Q E, sp vs H Q E → vs.length = 2) (hp : ∀ vs H Q E, sp vs H Q E → t_Grove_dates_of K { nx := fun _ H' => Q .non H', rt := Q } (L2.start N_Grove_dates_of vs) H)
    {f : Addr} {fd : FuncData} (F : Fun K ("dates_of" : Str) ("Grove.dates_of" : Str) s_Grove_dates_of f fd) : FnOk P w K mg base CX0 1 f fd [("self" : Str), ("name" : Str)] sp := by
  have nd := sc_Grove_dates_of.nd
  refine F.ok sc_Grove_dates_of len (fun cdv A outer s H vs Q E hr h => ⟨t_Grove_dates_of K, ?_, hp vs H Q E h⟩)
  exact (pss_one (ps_ret (pe_ix (ix_u hr.units) (pe_ix (ix_u hr.units) (pe_fldD (pv 0)) (pv 1) (fun _ _ => rfl)) (pe_int) (fun _ _ => rfl))))

abbrev s_is_day : Stmt := top 42
abbrev N_is_day : List Str := [("value" : Str)]
theorem sc_is_day : FnScope N_is_day [("value" : Str)] (defScope s_is_day) := ⟨rfl, rfl, rfl, by decide +kernel, rfl, by decide +kernel, by decide +kernel⟩
def t_is_day (K : PySem.W.Frag) (sp_is_between : Sp) : TS :=
  (tRet (tCall sp_is_between [] E0 (tCons (tVar 0) (tCons (tC (.int 0)) (tCons (tC (.int 999)) tNil)))))
theorem ok_is_day {P : Program} {w : World} {K : PySem.W.Frag} {mg : Str → Option Value} {base : Heap} {sp : Sp} {sp_is_between : Sp} (T : Tx K mg) (D_is_between : Df P w K mg base ("is_between" : Str) 2 [("value" : Str), ("least" : Str), ("most" : Str)] sp_is_between)
    (len : ∀ vs H Q E, sp vs H Q E → vs.length = 1) (hp : ∀ vs H Q E, sp vs H Q E → t_is_day K sp_is_between { nx := fun _ H' => Q .non H', rt := Q } (L2.start N_is_day vs) H)
    {f : Addr} {fd : FuncData} (F : Fun K ("is_day" : Str) ("is_day" : Str) s_is_day f fd) : FnOk P w K mg base CX0 3 f fd [("value" : Str)] sp := by
  have nd := sc_is_day.nd
  refine F.ok sc_is_day len (fun cdv A outer s H vs Q E hr h => ⟨t_is_day K sp_is_between, ?_, hp vs H Q E h⟩)
  exact (pss_one (ps_ret (pe_callD D_is_between (hr.mono (by decide)) (pa_cons (pv 0) (pa_cons (pe_int) (pa_cons (pe_cst T.c_LAST_DAY) pa_nil))))))

abbrev s_check_grove : Stmt := top 43
abbrev N_check_grove : List Str := [("grove" : Str)]
theorem sc_check_grove : FnScope N_check_grove [("grove" : Str)] (defScope s_check_grove) := ⟨rfl, rfl, rfl, by decide +kernel, rfl, by decide +kernel, by decide +kernel⟩
def t_check_grove (K : PySem.W.Frag) (C_Grove : Addr) : TS :=
  (tIfS (tNot (tB (tCB (rIsi K) (tCons (tVar 0) (tCons (tC (.ref C_Grove)) tNil))))) (tNever) tNext)
theorem ok_check_grove {P : Program} {w : World} {K : PySem.W.Frag} {mg : Str → Option Value} {base : Heap} {sp : Sp} {C_Grove : Addr} (T : Tx K mg) (c_Grove : Cst mg ("Grove" : Str) (.ref C_Grove))
    (len : ∀ vs H Q E, sp vs H Q E → vs.length = 1) (hp : ∀ vs H Q E, sp vs H Q E → t_check_grove K C_Grove { nx := fun _ H' => Q .non H', rt := Q } (L2.start N_check_grove vs) H)
    {f : Addr} {fd : FuncData} (F : Fun K ("check_grove" : Str) ("check_grove" : Str) s_check_grove f fd) : FnOk P w K mg base CX0 1 f fd [("grove" : Str)] sp := by
  have nd := sc_check_grove.nd
  refine F.ok sc_check_grove len (fun cdv A outer s H vs Q E hr h => ⟨t_check_grove K C_Grove, ?_, hp vs H Q E h⟩)
  exact (pss_one (ps_if (pt_not (pt_val (pe_callB call_isi rfl T.b_isinstance (by decide +kernel) (pa_cons (pv 0) (pa_cons (pe_cst (v := .ref C_Grove) c_Grove) pa_nil))))) (pss_one (ps_never)) pss_nil))

abbrev s_check_palm : Stmt := top 44
abbrev N_check_palm : List Str := [("grove" : Str), ("palm" : Str)]
theorem sc_check_palm : FnScope N_check_palm [("grove" : Str), ("palm" : Str)] (defScope s_check_palm) := ⟨rfl, rfl, rfl, by decide +kernel, rfl, by decide +kernel, by decide +kernel⟩
def t_check_palm (K : PySem.W.Frag) (C_Grove : Addr) (sp_check_grove : Sp) (sp_Grove_palm_names : Sp) : TS :=
  (tSeq (tDrop (tCall sp_check_grove [] E0 (tCons (tVar 0) tNil))) (tIfS ((tOr (tNot (tB (tCB (rIsi K) (tCons (tVar 1) (tCons (tC (.ty "str")) tNil))))) (tTest (tOp (uNi K) (tVar 1) (tMeth C_Grove ("palm_names" : Str) sp_Grove_palm_names [] E0 (tVar 0) tNil))))) (tNever) tNext))
theorem ok_check_palm {P : Program} {w : World} {K : PySem.W.Frag} {mg : Str → Option Value} {base : Heap} {sp : Sp} {C_Grove : Addr} {sp_check_grove : Sp} {sp_Grove_palm_names : Sp} (T : Tx K mg) (D_check_grove : Df P w K mg base ("check_grove" : Str) 1 [("grove" : Str)] sp_check_grove) (D_Grove_palm_names : Dm P w K mg base C_Grove ("palm_names" : Str) 1 [("self" : Str)] sp_Grove_palm_names)
    (len : ∀ vs H Q E, sp vs H Q E → vs.length = 2) (hp : ∀ vs H Q E, sp vs H Q E → t_check_palm K C_Grove sp_check_grove sp_Grove_palm_names { nx := fun _ H' => Q .non H', rt := Q } (L2.start N_check_palm vs) H)
    {f : Addr} {fd : FuncData} (F : Fun K ("check_palm" : Str) ("check_palm" : Str) s_check_palm f fd) : FnOk P w K mg base CX0 2 f fd [("grove" : Str), ("palm" : Str)] sp := by
  have nd := sc_check_palm.nd
  refine F.ok sc_check_palm len (fun cdv A outer s H vs Q E hr h => ⟨t_check_palm K C_Grove sp_check_grove sp_Grove_palm_names, ?_, hp vs H Q E h⟩)
  exact (pss_cons (ps_expr (pe_callD D_check_grove (hr.mono (by decide)) (pa_cons (pv 0) pa_nil))) (pss_one (ps_if (PW.pt (pw_or (pt_not (pt_val (pe_callB call_isi rfl T.b_isinstance (by decide +kernel) (pa_cons (pv 1) (pa_cons (pe_bltn rfl T.b_str (by decide +kernel) rfl) pa_nil))))) (pw_or1 (pt_cmpR (op_uNi hr.units) (pv 1) (pe_meth0D D_Grove_palm_names (hr.mono (by decide)) (pv 0)) (by rfl))))) (pss_one (ps_never)) pss_nil)))

abbrev s_check_year : Stmt := top 45
abbrev N_check_year : List Str := [("year" : Str)]
theorem sc_check_year : FnScope N_check_year [("year" : Str)] (defScope s_check_year) := ⟨rfl, rfl, rfl, by decide +kernel, rfl, by decide +kernel, by decide +kernel⟩
def t_check_year (K : PySem.W.Frag) (sp_is_between : Sp) : TS :=
  (tIfS (tNot (tB (tCall sp_is_between [] E0 (tCons (tVar 0) (tCons (tC (.int 0)) (tCons (tC (.int 9999)) tNil)))))) (tNever) tNext)
theorem ok_check_year {P : Program} {w : World} {K : PySem.W.Frag} {mg : Str → Option Value} {base : Heap} {sp : Sp} {sp_is_between : Sp} (T : Tx K mg) (D_is_between : Df P w K mg base ("is_between" : Str) 2 [("value" : Str), ("least" : Str), ("most" : Str)] sp_is_between)
    (len : ∀ vs H Q E, sp vs H Q E → vs.length = 1) (hp : ∀ vs H Q E, sp vs H Q E → t_check_year K sp_is_between { nx := fun _ H' => Q .non H', rt := Q } (L2.start N_check_year vs) H)
    {f : Addr} {fd : FuncData} (F : Fun K ("check_year" : Str) ("check_year" : Str) s_check_year f fd) : FnOk P w K mg base CX0 3 f fd [("year" : Str)] sp := by
  have nd := sc_check_year.nd
  refine F.ok sc_check_year len (fun cdv A outer s H vs Q E hr h => ⟨t_check_year K sp_is_between, ?_, hp vs H Q E h⟩)
  exact (pss_one (ps_if (pt_not (pt_val (pe_callD D_is_between (hr.mono (by decide)) (pa_cons (pv 0) (pa_cons (pe_int) (pa_cons (pe_cst T.c_LAST_YEAR) pa_nil)))))) (pss_one (ps_never)) pss_nil))

abbrev s_bears_in : Stmt := top 46
abbrev N_bears_in : List Str := [("grove" : Str), ("palm" : Str), ("year" : Str), ("signs" : Str)]
theorem sc_bears_in : FnScope N_bears_in [("grove" : Str), ("palm" : Str), ("year" : Str)] (defScope s_bears_in) := ⟨rfl, rfl, rfl, by decide +kernel, rfl, by decide +kernel, by decide +kernel⟩
def t_bears_in (K : PySem.W.Frag) (C_Grove : Addr) (sp_Grove_years_of : Sp) : TS :=
  (tSeq (tAsg (tMeth C_Grove ("years_of" : Str) sp_Grove_years_of [] E0 (tVar 0) (tCons (tVar 1) tNil)) (gName 3)) (tRet (tOp (uEq K) (tOp (uIx K) (tVar 3) (tOp (uMod) (tVar 2) (tCB (uLen K) (tCons (tVar 3) tNil)))) (tC (.str ("1" : Str))))))
theorem ok_bears_in {P : Program} {w : World} {K : PySem.W.Frag} {mg : Str → Option Value} {base : Heap} {sp : Sp} {C_Grove : Addr} {sp_Grove_years_of : Sp} (T : Tx K mg) (D_Grove_years_of : Dm P w K mg base C_Grove ("years_of" : Str) 1 [("self" : Str), ("name" : Str)] sp_Grove_years_of)
    (len : ∀ vs H Q E, sp vs H Q E → vs.length = 3) (hp : ∀ vs H Q E, sp vs H Q E → t_bears_in K C_Grove sp_Grove_years_of { nx := fun _ H' => Q .non H', rt := Q } (L2.start N_bears_in vs) H)
    {f : Addr} {fd : FuncData} (F : Fun K ("bears_in" : Str) ("bears_in" : Str) s_bears_in f fd) : FnOk P w K mg base CX0 2 f fd [("grove" : Str), ("palm" : Str), ("year" : Str)] sp := by
  have nd := sc_bears_in.nd
  refine F.ok sc_bears_in len (fun cdv A outer s H vs Q E hr h => ⟨t_bears_in K C_Grove sp_Grove_years_of, ?_, hp vs H Q E h⟩)
  exact (pss_cons (ps_set (i := 3) nd rfl (Or.inl rfl) (pe_methD D_Grove_years_of (hr.mono (by decide)) (pv 0) (pa_cons (pv 1) pa_nil))) (pss_one (ps_ret (pe_cmpR (op_uEq hr.units) (pe_ix (ix_u hr.units) (pv 3) (pe_op op_uMod (pv 2) (pe_callB cr_uLen rfl T.b_len (by decide +kernel) (pa_cons (pv 3) pa_nil))) (fun _ _ => rfl)) (pe_str) (nomark _)))))

abbrev s_bears : Stmt := top 47
abbrev N_bears : List Str := [("grove" : Str), ("palm" : Str), ("year" : Str)]
theorem sc_bears : FnScope N_bears [("grove" : Str), ("palm" : Str), ("year" : Str)] (defScope s_bears) := ⟨rfl, rfl, rfl, by decide +kernel, rfl, by decide +kernel, by decide +kernel⟩
def t_bears (K : PySem.W.Frag) (sp_check_palm : Sp) (sp_check_year : Sp) (sp_bears_in : Sp) : TS :=
  (tSeq (tDrop (tCall sp_check_palm [] E0 (tCons (tVar 0) (tCons (tVar 1) tNil)))) (tSeq (tDrop (tCall sp_check_year [] E0 (tCons (tVar 2) tNil))) (tRet (tCall sp_bears_in [] E0 (tCons (tVar 0) (tCons (tVar 1) (tCons (tVar 2) tNil)))))))
theorem ok_bears {P : Program} {w : World} {K : PySem.W.Frag} {mg : Str → Option Value} {base : Heap} {sp : Sp} {sp_check_palm : Sp} {sp_check_year : Sp} {sp_bears_in : Sp} (T : Tx K mg) (D_check_palm : Df P w K mg base ("check_palm" : Str) 2 [("grove" : Str), ("palm" : Str)] sp_check_palm) (D_check_year : Df P w K mg base ("check_year" : Str) 3 [("year" : Str)] sp_check_year) (D_bears_in : Df P w K mg base ("bears_in" : Str) 2 [("grove" : Str), ("palm" : Str), ("year" : Str)] sp_bears_in)
    (len : ∀ vs H Q E, sp vs H Q E → vs.length = 3) (hp : ∀ vs H Q E, sp vs H Q E → t_bears K sp_check_palm sp_check_year sp_bears_in { nx := fun _ H' => Q .non H', rt := Q } (L2.start N_bears vs) H)
    {f : Addr} {fd : FuncData} (F : Fun K ("bears" : Str) ("bears" : Str) s_bears f fd) : FnOk P w K mg base CX0 4 f fd [("grove" : Str), ("palm" : Str), ("year" : Str)] sp := by
  have nd := sc_bears.nd
  refine F.ok sc_bears len (fun cdv A outer s H vs Q E hr h => ⟨t_bears K sp_check_palm sp_check_year sp_bears_in, ?_, hp vs H Q E h⟩)
  exact (pss_cons (ps_expr (pe_callD D_check_palm (hr.mono (by decide)) (pa_cons (pv 0) (pa_cons (pv 1) pa_nil)))) (pss_cons (ps_expr (pe_callD D_check_year (hr.mono (by decide)) (pa_cons (pv 2) pa_nil))) (pss_one (ps_ret (pe_callD D_bears_in (hr.mono (by decide)) (pa_cons (pv 0) (pa_cons (pv 1) (pa_cons (pv 2) pa_nil))))))))

abbrev s_baskets_in : Stmt := top 48
abbrev N_baskets_in : List Str := [("grove" : Str), ("year" : Str), ("palm" : Str)]
theorem sc_baskets_in : FnScope N_baskets_in [("grove" : Str), ("year" : Str)] (defScope s_baskets_in) := ⟨rfl, rfl, rfl, by decide +kernel, rfl, by decide +kernel, by decide +kernel⟩
def t_baskets_in (K : PySem.W.Frag) (C_Grove : Addr) (sp_Grove_palm_names : Sp) (sp_bears_in : Sp) (sp_Grove_dates_of : Sp) : TS :=
  (tRet (tCB (rSum K) (tCons (tLc (iAny K (tMeth C_Grove ("palm_names" : Str) sp_Grove_palm_names [] E0 (tVar 0) tNil)) (gName 2) (tB (tCall sp_bears_in [] E0 (tCons (tVar 0) (tCons (tVar 2) (tCons (tVar 1) tNil))))) (tMeth C_Grove ("dates_of" : Str) sp_Grove_dates_of [] E0 (tVar 0) (tCons (tVar 2) tNil)) [2]) tNil)))
theorem ok_baskets_in {P : Program} {w : World} {K : PySem.W.Frag} {mg : Str → Option Value} {base : Heap} {sp : Sp} {C_Grove : Addr} {sp_Grove_palm_names : Sp} {sp_bears_in : Sp} {sp_Grove_dates_of : Sp} (T : Tx K mg) (D_Grove_palm_names : Dm P w K mg base C_Grove ("palm_names" : Str) 1 [("self" : Str)] sp_Grove_palm_names) (D_bears_in : Df P w K mg base ("bears_in" : Str) 2 [("grove" : Str), ("palm" : Str), ("year" : Str)] sp_bears_in) (D_Grove_dates_of : Dm P w K mg base C_Grove ("dates_of" : Str) 1 [("self" : Str), ("name" : Str)] sp_Grove_dates_of)
    (len : ∀ vs H Q E, sp vs H Q E → vs.length = 2) (hp : ∀ vs H Q E, sp vs H Q E → t_baskets_in K C_Grove sp_Grove_palm_names sp_bears_in sp_Grove_dates_of { nx := fun _ H' => Q .non H', rt := Q } (L2.start N_baskets_in vs) H)
    {f : Addr} {fd : FuncData} (F : Fun K ("baskets_in" : Str) ("baskets_in" : Str) s_baskets_in f fd) : FnOk P w K mg base CX0 3 f fd [("grove" : Str), ("year" : Str)] sp := by
  have nd := sc_baskets_in.nd
  refine F.ok sc_baskets_in len (fun cdv A outer s H vs Q E hr h => ⟨t_baskets_in K C_Grove sp_Grove_palm_names sp_bears_in sp_Grove_dates_of, ?_, hp vs H Q E h⟩)
  exact (pss_one (ps_ret (pe_callB (cr_sum rfl) rfl T.b_sum (by decide +kernel) (pa_cons (pe_lc (own := [(("palm" : Str), 2)]) (g := (gName 2)) (tt := (tB (tCall sp_bears_in [] E0 (tCons (tVar 0) (tCons (tVar 2) (tCons (tVar 1) tNil)))))) rfl nd (pi_any (pe_meth0D D_Grove_palm_names (hr.mono (by decide)) (pv 0))) (blkOk_by (N := N_baskets_in) (sc := defScope s_baskets_in) (by decide +kernel)) (fun _ _ _ _ _ => (pg_name (i := 2) nd rfl (Or.inl rfl))) (fun _ _ _ _ _ => (pts_one (pt_val (pe_callD D_bears_in (hr.mono (by decide)) (pa_cons (pv 0) (pa_cons (pv 2) (pa_cons (pv 1) pa_nil))))))) (fun _ _ _ _ _ => (pe_methD D_Grove_dates_of (hr.mono (by decide)) (pv 0) (pa_cons (pv 2) pa_nil)))) pa_nil))))

abbrev s_baskets : Stmt := top 49
abbrev N_baskets : List Str := [("grove" : Str), ("year" : Str)]
theorem sc_baskets : FnScope N_baskets [("grove" : Str), ("year" : Str)] (defScope s_baskets) := ⟨rfl, rfl, rfl, by decide +kernel, rfl, by decide +kernel, by decide +kernel⟩
def t_baskets (K : PySem.W.Frag) (sp_check_grove : Sp) (sp_check_year : Sp) (sp_baskets_in : Sp) : TS :=
  (tSeq (tDrop (tCall sp_check_grove [] E0 (tCons (tVar 0) tNil))) (tSeq (tDrop (tCall sp_check_year [] E0 (tCons (tVar 1) tNil))) (tRet (tCall sp_baskets_in [] E0 (tCons (tVar 0) (tCons (tVar 1) tNil))))))
theorem ok_baskets {P : Program} {w : World} {K : PySem.W.Frag} {mg : Str → Option Value} {base : Heap} {sp : Sp} {sp_check_grove : Sp} {sp_check_year : Sp} {sp_baskets_in : Sp} (T : Tx K mg) (D_check_grove : Df P w K mg base ("check_grove" : Str) 1 [("grove" : Str)] sp_check_grove) (D_check_year : Df P w K mg base ("check_year" : Str) 3 [("year" : Str)] sp_check_year) (D_baskets_in : Df P w K mg base ("baskets_in" : Str) 3 [("grove" : Str), ("year" : Str)] sp_baskets_in)
    (len : ∀ vs H Q E, sp vs H Q E → vs.length = 2) (hp : ∀ vs H Q E, sp vs H Q E → t_baskets K sp_check_grove sp_check_year sp_baskets_in { nx := fun _ H' => Q .non H', rt := Q } (L2.start N_baskets vs) H)
    {f : Addr} {fd : FuncData} (F : Fun K ("baskets" : Str) ("baskets" : Str) s_baskets f fd) : FnOk P w K mg base CX0 4 f fd [("grove" : Str), ("year" : Str)] sp := by
  have nd := sc_baskets.nd
  refine F.ok sc_baskets len (fun cdv A outer s H vs Q E hr h => ⟨t_baskets K sp_check_grove sp_check_year sp_baskets_in, ?_, hp vs H Q E h⟩)
  exact (pss_cons (ps_expr (pe_callD D_check_grove (hr.mono (by decide)) (pa_cons (pv 0) pa_nil))) (pss_cons (ps_expr (pe_callD D_check_year (hr.mono (by decide)) (pa_cons (pv 1) pa_nil))) (pss_one (ps_ret (pe_callD D_baskets_in (hr.mono (by decide)) (pa_cons (pv 0) (pa_cons (pv 1) pa_nil)))))))

abbrev s_check_life : Stmt := top 53
abbrev N_check_life : List Str := [("life" : Str)]
theorem sc_check_life : FnScope N_check_life [("life" : Str)] (defScope s_check_life) := ⟨rfl, rfl, rfl, by decide +kernel, rfl, by decide +kernel, by decide +kernel⟩
def t_check_life (K : PySem.W.Frag) (sp_is_between : Sp) : TS :=
  (tSeq (tIfS ((tOr (tNot (tB (tCB (rIsi K) (tCons (tVar 0) (tCons (tC (.ty "tuple")) tNil))))) (tOr (tTest (tOp (uNe K) (tCB (uLen K) (tCons (tVar 0) tNil)) (tC (.int 2)))) (tNot (tB (tCall sp_is_between [] E0 (tCons (tOp (uIx K) (tVar 0) (tC (.int 1))) (tCons (tC (.int 1)) (tCons (tC (.int 60)) tNil))))))))) (tNever) tNext) (tIfS (tNot (tB (tCall sp_is_between [] E0 (tCons (tOp (uIx K) (tVar 0) (tC (.int 0))) (tCons (tC (.int 0)) (tCons (tOp (uSub) (tOp (uIx K) (tVar 0) (tC (.int 1))) (tC (.int 1))) tNil)))))) (tNever) tNext))
theorem ok_check_life {P : Program} {w : World} {K : PySem.W.Frag} {mg : Str → Option Value} {base : Heap} {sp : Sp} {sp_is_between : Sp} (T : Tx K mg) (D_is_between : Df P w K mg base ("is_between" : Str) 2 [("value" : Str), ("least" : Str), ("most" : Str)] sp_is_between)
    (len : ∀ vs H Q E, sp vs H Q E → vs.length = 1) (hp : ∀ vs H Q E, sp vs H Q E → t_check_life K sp_is_between { nx := fun _ H' => Q .non H', rt := Q } (L2.start N_check_life vs) H)
    {f : Addr} {fd : FuncData} (F : Fun K ("check_life" : Str) ("check_life" : Str) s_check_life f fd) : FnOk P w K mg base CX0 3 f fd [("life" : Str)] sp := by
  have nd := sc_check_life.nd
  refine F.ok sc_check_life len (fun cdv A outer s H vs Q E hr h => ⟨t_check_life K sp_is_between, ?_, hp vs H Q E h⟩)
  exact (pss_cons (ps_if (PW.pt (pw_or (pt_not (pt_val (pe_callB call_isi rfl T.b_isinstance (by decide +kernel) (pa_cons (pv 0) (pa_cons (pe_bltn rfl T.b_tuple (by decide +kernel) rfl) pa_nil))))) (pw_or (pt_cmpR (op_uNe hr.units) (pe_callB cr_uLen rfl T.b_len (by decide +kernel) (pa_cons (pv 0) pa_nil)) (pe_int) (nomark _)) (pw_or1 (pt_not (pt_val (pe_callD D_is_between (hr.mono (by decide)) (pa_cons (pe_ix (ix_u hr.units) (pv 0) (pe_int) (fun _ _ => rfl)) (pa_cons (pe_int) (pa_cons (pe_cst T.c_MOST_LONG) pa_nil)))))))))) (pss_one (ps_never)) pss_nil) (pss_one (ps_if (pt_not (pt_val (pe_callD D_is_between (hr.mono (by decide)) (pa_cons (pe_ix (ix_u hr.units) (pv 0) (pe_int) (fun _ _ => rfl)) (pa_cons (pe_int) (pa_cons (pe_op op_uSub (pe_ix (ix_u hr.units) (pv 0) (pe_int) (fun _ _ => rfl)) (pe_int)) pa_nil)))))) (pss_one (ps_never)) pss_nil)))

abbrev s_are_plants_of : Stmt := top 54
abbrev N_are_plants_of : List Str := [("life" : Str), ("value" : Str), ("plant" : Str), ("one" : Str), ("other" : Str)]
theorem sc_are_plants_of : FnScope N_are_plants_of [("life" : Str), ("value" : Str)] (defScope s_are_plants_of) := ⟨rfl, rfl, rfl, by decide +kernel, rfl, by decide +kernel, by decide +kernel⟩
def t_are_plants_of (K : PySem.W.Frag) (sp_is_between : Sp) : TS :=
  (tSeq (tIfS ((tOr (tNot (tB (tCB (rIsi K) (tCons (tVar 1) (tCons (tC (.ty "tuple")) tNil))))) (tTest (tOp (uGt) (tCB (uLen K) (tCons (tVar 1) tNil)) (tC (.int 60)))))) (tRet (tC (.bl false))) tNext) (tSeq (tIfS (tNot (tB (tCB (rAll K) (tCons (tLc (iAny K (tVar 1)) (gName 2) tYes (tCall sp_is_between [] E0 (tCons (tVar 2) (tCons (tC (.int 0)) (tCons (tOp (uSub) (tOp (uIx K) (tVar 0) (tC (.int 1))) (tC (.int 1))) tNil)))) [2]) tNil)))) (tRet (tC (.bl false))) tNext) (tRet (tCB (rAll K) (tCons (tLc (iZp K (tCons (tVar 1) (tCons (tSl (uSl K) (tVar 1) (tPart (tC (.int 1))) tNoPart) tNil))) (gU K 2 (gCons (gName 3) (gCons (gName 4) gNil))) tYes (tOp (uLe) (tVar 3) (tVar 4)) [3, 4]) tNil)))))
theorem ok_are_plants_of {P : Program} {w : World} {K : PySem.W.Frag} {mg : Str → Option Value} {base : Heap} {sp : Sp} {sp_is_between : Sp} (T : Tx K mg) (D_is_between : Df P w K mg base ("is_between" : Str) 2 [("value" : Str), ("least" : Str), ("most" : Str)] sp_is_between)
    (len : ∀ vs H Q E, sp vs H Q E → vs.length = 2) (hp : ∀ vs H Q E, sp vs H Q E → t_are_plants_of K sp_is_between { nx := fun _ H' => Q .non H', rt := Q } (L2.start N_are_plants_of vs) H)
    {f : Addr} {fd : FuncData} (F : Fun K ("are_plants_of" : Str) ("are_plants_of" : Str) s_are_plants_of f fd) : FnOk P w K mg base CX0 3 f fd [("life" : Str), ("value" : Str)] sp := by
  have nd := sc_are_plants_of.nd
  refine F.ok sc_are_plants_of len (fun cdv A outer s H vs Q E hr h => ⟨t_are_plants_of K sp_is_between, ?_, hp vs H Q E h⟩)
  exact (pss_cons (ps_if (PW.pt (pw_or (pt_not (pt_val (pe_callB call_isi rfl T.b_isinstance (by decide +kernel) (pa_cons (pv 1) (pa_cons (pe_bltn rfl T.b_tuple (by decide +kernel) rfl) pa_nil))))) (pw_or1 (pt_cmpR op_uGt (pe_callB cr_uLen rfl T.b_len (by decide +kernel) (pa_cons (pv 1) pa_nil)) (pe_cst T.c_MOST_PLANTS) (nomark _))))) (pss_one (ps_ret (pe_bl))) pss_nil) (pss_cons (ps_if (pt_not (pt_val (pe_callB (cr_all rfl) rfl T.b_all (by decide +kernel) (pa_cons (pe_lc (own := [(("plant" : Str), 2)]) (g := (gName 2)) (tt := tYes) rfl nd (pi_any (pv 1)) (blkOk_by (N := N_are_plants_of) (sc := defScope s_are_plants_of) (by decide +kernel)) (fun _ _ _ _ _ => (pg_name (i := 2) nd rfl (Or.inl rfl))) (fun _ _ _ _ _ => pts_nil) (fun _ _ _ _ _ => (pe_callD D_is_between (hr.mono (by decide)) (pa_cons (pv 2) (pa_cons (pe_int) (pa_cons (pe_op op_uSub (pe_ix (ix_u hr.units) (pv 0) (pe_int) (fun _ _ => rfl)) (pe_int)) pa_nil)))))) pa_nil)))) (pss_one (ps_ret (pe_bl))) pss_nil) (pss_one (ps_ret (pe_callB (cr_all rfl) rfl T.b_all (by decide +kernel) (pa_cons (pe_lc (own := [(("one" : Str), 3), (("other" : Str), 4)]) (g := (gU K 2 (gCons (gName 3) (gCons (gName 4) gNil)))) (tt := tYes) rfl nd (pi_zp rfl T.b_zip (pa_cons (pv 1) (pa_cons (pe_slice sl_u (pv 1) (po_some (pe_int)) po_none) pa_nil))) (blkOk_by (N := N_are_plants_of) (sc := defScope s_are_plants_of) (by decide +kernel)) (fun _ _ _ _ _ => (pg_gU rfl (pgs_cons (pg_name (i := 3) nd rfl (Or.inl rfl)) (pgs_cons (pg_name (i := 4) nd rfl (Or.inl rfl)) pgs_nil)))) (fun _ _ _ _ _ => pts_nil) (fun _ _ _ _ _ => (pe_cmpR op_uLe (pv 3) (pv 4) (nomark _)))) pa_nil))))))

abbrev s_check_plants : Stmt := top 55
abbrev N_check_plants : List Str := [("life" : Str), ("plants" : Str)]
theorem sc_check_plants : FnScope N_check_plants [("life" : Str), ("plants" : Str)] (defScope s_check_plants) := ⟨rfl, rfl, rfl, by decide +kernel, rfl, by decide +kernel, by decide +kernel⟩
def t_check_plants (K : PySem.W.Frag) (sp_check_life : Sp) (sp_are_plants_of : Sp) : TS :=
  (tSeq (tDrop (tCall sp_check_life [] E0 (tCons (tVar 0) tNil))) (tIfS (tNot (tB (tCall sp_are_plants_of [] E0 (tCons (tVar 0) (tCons (tVar 1) tNil))))) (tNever) tNext))
theorem ok_check_plants {P : Program} {w : World} {K : PySem.W.Frag} {mg : Str → Option Value} {base : Heap} {sp : Sp} {sp_check_life : Sp} {sp_are_plants_of : Sp} (T : Tx K mg) (D_check_life : Df P w K mg base ("check_life" : Str) 3 [("life" : Str)] sp_check_life) (D_are_plants_of : Df P w K mg base ("are_plants_of" : Str) 3 [("life" : Str), ("value" : Str)] sp_are_plants_of)
    (len : ∀ vs H Q E, sp vs H Q E → vs.length = 2) (hp : ∀ vs H Q E, sp vs H Q E → t_check_plants K sp_check_life sp_are_plants_of { nx := fun _ H' => Q .non H', rt := Q } (L2.start N_check_plants vs) H)
    {f : Addr} {fd : FuncData} (F : Fun K ("check_plants" : Str) ("check_plants" : Str) s_check_plants f fd) : FnOk P w K mg base CX0 4 f fd [("life" : Str), ("plants" : Str)] sp := by
  have nd := sc_check_plants.nd
  refine F.ok sc_check_plants len (fun cdv A outer s H vs Q E hr h => ⟨t_check_plants K sp_check_life sp_are_plants_of, ?_, hp vs H Q E h⟩)
  exact (pss_cons (ps_expr (pe_callD D_check_life (hr.mono (by decide)) (pa_cons (pv 0) pa_nil))) (pss_one (ps_if (pt_not (pt_val (pe_callD D_are_plants_of (hr.mono (by decide)) (pa_cons (pv 0) (pa_cons (pv 1) pa_nil))))) (pss_one (ps_never)) pss_nil)))

abbrev s_bearing_by : Stmt := top 56
abbrev N_bearing_by : List Str := [("life" : Str), ("plants" : Str), ("year" : Str), ("young" : Str), ("long" : Str), ("plant" : Str)]
theorem sc_bearing_by : FnScope N_bearing_by [("life" : Str), ("plants" : Str), ("year" : Str)] (defScope s_bearing_by) := ⟨rfl, rfl, rfl, by decide +kernel, rfl, by decide +kernel, by decide +kernel⟩
def t_bearing_by (K : PySem.W.Frag) : TS :=
  (tSeq (tAsg (tVar 0) (gU K 2 (gCons (gName 3) (gCons (gName 4) gNil)))) (tRet (tCB (uLen K) (tCons (tLc (iAny K (tVar 1)) (gName 5) (tTest (tOp (uGe) (tOp (uMod) (tOp (uSub) (tVar 2) (tVar 5)) (tVar 4)) (tVar 3))) (tC (.int 1)) [5]) tNil))))
theorem ok_bearing_by {P : Program} {w : World} {K : PySem.W.Frag} {mg : Str → Option Value} {base : Heap} {sp : Sp} (T : Tx K mg)
    (len : ∀ vs H Q E, sp vs H Q E → vs.length = 3) (hp : ∀ vs H Q E, sp vs H Q E → t_bearing_by K { nx := fun _ H' => Q .non H', rt := Q } (L2.start N_bearing_by vs) H)
    {f : Addr} {fd : FuncData} (F : Fun K ("bearing_by" : Str) ("bearing_by" : Str) s_bearing_by f fd) : FnOk P w K mg base CX0 1 f fd [("life" : Str), ("plants" : Str), ("year" : Str)] sp := by
  have nd := sc_bearing_by.nd
  refine F.ok sc_bearing_by len (fun cdv A outer s H vs Q E hr h => ⟨t_bearing_by K, ?_, hp vs H Q E h⟩)
  exact (pss_cons (ps_asg (pv 0) (pg_gU rfl (pgs_cons (pg_name (i := 3) nd rfl (Or.inr rfl)) (pgs_cons (pg_name (i := 4) nd rfl (Or.inr rfl)) pgs_nil)))) (pss_one (ps_ret (pe_callB cr_uLen rfl T.b_len (by decide +kernel) (pa_cons (pe_lc (own := [(("plant" : Str), 5)]) (g := (gName 5)) (tt := (tTest (tOp (uGe) (tOp (uMod) (tOp (uSub) (tVar 2) (tVar 5)) (tVar 4)) (tVar 3)))) rfl nd (pi_any (pv 1)) (blkOk_by (N := N_bearing_by) (sc := defScope s_bearing_by) (by decide +kernel)) (fun _ _ _ _ _ => (pg_name (i := 5) nd rfl (Or.inl rfl))) (fun _ _ _ _ _ => (pts_one (pt_cmpR op_uGe (pe_op op_uMod (pe_op op_uSub (pv 2) (pv 5)) (pv 4)) (pv 3) (nomark _)))) (fun _ _ _ _ _ => (pe_int))) pa_nil)))))

abbrev s_bearing : Stmt := top 57
abbrev N_bearing : List Str := [("life" : Str), ("plants" : Str), ("year" : Str)]
theorem sc_bearing : FnScope N_bearing [("life" : Str), ("plants" : Str), ("year" : Str)] (defScope s_bearing) := ⟨rfl, rfl, rfl, by decide +kernel, rfl, by decide +kernel, by decide +kernel⟩
def t_bearing (K : PySem.W.Frag) (sp_check_plants : Sp) (sp_check_year : Sp) (sp_bearing_by : Sp) : TS :=
  (tSeq (tDrop (tCall sp_check_plants [] E0 (tCons (tVar 0) (tCons (tVar 1) tNil)))) (tSeq (tDrop (tCall sp_check_year [] E0 (tCons (tVar 2) tNil))) (tRet (tCall sp_bearing_by [] E0 (tCons (tVar 0) (tCons (tVar 1) (tCons (tVar 2) tNil)))))))
theorem ok_bearing {P : Program} {w : World} {K : PySem.W.Frag} {mg : Str → Option Value} {base : Heap} {sp : Sp} {sp_check_plants : Sp} {sp_check_year : Sp} {sp_bearing_by : Sp} (T : Tx K mg) (D_check_plants : Df P w K mg base ("check_plants" : Str) 4 [("life" : Str), ("plants" : Str)] sp_check_plants) (D_check_year : Df P w K mg base ("check_year" : Str) 3 [("year" : Str)] sp_check_year) (D_bearing_by : Df P w K mg base ("bearing_by" : Str) 1 [("life" : Str), ("plants" : Str), ("year" : Str)] sp_bearing_by)
    (len : ∀ vs H Q E, sp vs H Q E → vs.length = 3) (hp : ∀ vs H Q E, sp vs H Q E → t_bearing K sp_check_plants sp_check_year sp_bearing_by { nx := fun _ H' => Q .non H', rt := Q } (L2.start N_bearing vs) H)
    {f : Addr} {fd : FuncData} (F : Fun K ("bearing" : Str) ("bearing" : Str) s_bearing f fd) : FnOk P w K mg base CX0 5 f fd [("life" : Str), ("plants" : Str), ("year" : Str)] sp := by
  have nd := sc_bearing.nd
  refine F.ok sc_bearing len (fun cdv A outer s H vs Q E hr h => ⟨t_bearing K sp_check_plants sp_check_year sp_bearing_by, ?_, hp vs H Q E h⟩)
  exact (pss_cons (ps_expr (pe_callD D_check_plants (hr.mono (by decide)) (pa_cons (pv 0) (pa_cons (pv 1) pa_nil)))) (pss_cons (ps_expr (pe_callD D_check_year (hr.mono (by decide)) (pa_cons (pv 2) pa_nil))) (pss_one (ps_ret (pe_callD D_bearing_by (hr.mono (by decide)) (pa_cons (pv 0) (pa_cons (pv 1) (pa_cons (pv 2) pa_nil))))))))

abbrev s_bearings_of : Stmt := top 58
abbrev N_bearings_of : List Str := [("life" : Str), ("plants" : Str), ("year" : Str)]
theorem sc_bearings_of : FnScope N_bearings_of [("life" : Str), ("plants" : Str)] (defScope s_bearings_of) := ⟨rfl, rfl, rfl, by decide +kernel, rfl, by decide +kernel, by decide +kernel⟩
def t_bearings_of (K : PySem.W.Frag) (sp_bearing_by : Sp) : TS :=
  (tRet (tLc (iRng1 (tCons (tOp (uIx K) (tVar 0) (tC (.int 1))) tNil)) (gName 2) tYes (tCall sp_bearing_by [] E0 (tCons (tVar 0) (tCons (tVar 1) (tCons (tVar 2) tNil)))) [2]))
theorem ok_bearings_of {P : Program} {w : World} {K : PySem.W.Frag} {mg : Str → Option Value} {base : Heap} {sp : Sp} {sp_bearing_by : Sp} (T : Tx K mg) (D_bearing_by : Df P w K mg base ("bearing_by" : Str) 1 [("life" : Str), ("plants" : Str), ("year" : Str)] sp_bearing_by)
    (len : ∀ vs H Q E, sp vs H Q E → vs.length = 2) (hp : ∀ vs H Q E, sp vs H Q E → t_bearings_of K sp_bearing_by { nx := fun _ H' => Q .non H', rt := Q } (L2.start N_bearings_of vs) H)
    {f : Addr} {fd : FuncData} (F : Fun K ("bearings_of" : Str) ("bearings_of" : Str) s_bearings_of f fd) : FnOk P w K mg base CX0 2 f fd [("life" : Str), ("plants" : Str)] sp := by
  have nd := sc_bearings_of.nd
  refine F.ok sc_bearings_of len (fun cdv A outer s H vs Q E hr h => ⟨t_bearings_of K sp_bearing_by, ?_, hp vs H Q E h⟩)
  exact (pss_one (ps_ret (pe_lc (own := [(("year" : Str), 2)]) (g := (gName 2)) (tt := tYes) rfl nd (pi_range1 rfl T.b_range (pa_cons (pe_ix (ix_u hr.units) (pv 0) (pe_int) (fun _ _ => rfl)) pa_nil)) (blkOk_by (N := N_bearings_of) (sc := defScope s_bearings_of) (by decide +kernel)) (fun _ _ _ _ _ => (pg_name (i := 2) nd rfl (Or.inl rfl))) (fun _ _ _ _ _ => pts_nil) (fun _ _ _ _ _ => (pe_callD D_bearing_by (hr.mono (by decide)) (pa_cons (pv 0) (pa_cons (pv 1) (pa_cons (pv 2) pa_nil))))))))

abbrev s_least_bearing : Stmt := top 59
abbrev N_least_bearing : List Str := [("life" : Str), ("plants" : Str), ("rows" : Str)]
theorem sc_least_bearing : FnScope N_least_bearing [("life" : Str), ("plants" : Str)] (defScope s_least_bearing) := ⟨rfl, rfl, rfl, by decide +kernel, rfl, by decide +kernel, by decide +kernel⟩
def t_least_bearing (K : PySem.W.Frag) (sp_check_plants : Sp) (sp_bearings_of : Sp) : TS :=
  (tSeq (tDrop (tCall sp_check_plants [] E0 (tCons (tVar 0) (tCons (tVar 1) tNil)))) (tSeq (tAsg (tCall sp_bearings_of [] E0 (tCons (tVar 0) (tCons (tVar 1) tNil))) (gName 2)) (tRet (tTup (tCons (tCB (uMin K) (tCons (tVar 2) tNil)) (tCons (tBM K "list" (rIndex K) (tVar 2) (tCons (tCB (uMin K) (tCons (tVar 2) tNil)) tNil)) tNil))))))
theorem ok_least_bearing {P : Program} {w : World} {K : PySem.W.Frag} {mg : Str → Option Value} {base : Heap} {sp : Sp} {sp_check_plants : Sp} {sp_bearings_of : Sp} (T : Tx K mg) (D_check_plants : Df P w K mg base ("check_plants" : Str) 4 [("life" : Str), ("plants" : Str)] sp_check_plants) (D_bearings_of : Df P w K mg base ("bearings_of" : Str) 2 [("life" : Str), ("plants" : Str)] sp_bearings_of)
    (len : ∀ vs H Q E, sp vs H Q E → vs.length = 2) (hp : ∀ vs H Q E, sp vs H Q E → t_least_bearing K sp_check_plants sp_bearings_of { nx := fun _ H' => Q .non H', rt := Q } (L2.start N_least_bearing vs) H)
    {f : Addr} {fd : FuncData} (F : Fun K ("least_bearing" : Str) ("least_bearing" : Str) s_least_bearing f fd) : FnOk P w K mg base CX0 5 f fd [("life" : Str), ("plants" : Str)] sp := by
  have nd := sc_least_bearing.nd
  refine F.ok sc_least_bearing len (fun cdv A outer s H vs Q E hr h => ⟨t_least_bearing K sp_check_plants sp_bearings_of, ?_, hp vs H Q E h⟩)
  exact (pss_cons (ps_expr (pe_callD D_check_plants (hr.mono (by decide)) (pa_cons (pv 0) (pa_cons (pv 1) pa_nil)))) (pss_cons (ps_set (i := 2) nd rfl (Or.inl rfl) (pe_callD D_bearings_of (hr.mono (by decide)) (pa_cons (pv 0) (pa_cons (pv 1) pa_nil)))) (pss_one (ps_ret (pe_tup (pa_cons (pe_callB (cr_uMin rfl) rfl T.b_min (by decide +kernel) (pa_cons (pv 2) pa_nil)) (pa_cons (pe_bm PySem.F.plainAttrs_list PySem.F.slot_list_index PySem.F.type_list_index mt_index (pv 2) (pa_cons (pe_callB (cr_uMin rfl) rfl T.b_min (by decide +kernel) (pa_cons (pv 2) pa_nil)) pa_nil)) pa_nil)))))))

abbrev s_most_bearing : Stmt := top 60
abbrev N_most_bearing : List Str := [("life" : Str), ("plants" : Str), ("rows" : Str)]
theorem sc_most_bearing : FnScope N_most_bearing [("life" : Str), ("plants" : Str)] (defScope s_most_bearing) := ⟨rfl, rfl, rfl, by decide +kernel, rfl, by decide +kernel, by decide +kernel⟩
def t_most_bearing (K : PySem.W.Frag) (sp_check_plants : Sp) (sp_bearings_of : Sp) : TS :=
  (tSeq (tDrop (tCall sp_check_plants [] E0 (tCons (tVar 0) (tCons (tVar 1) tNil)))) (tSeq (tAsg (tCall sp_bearings_of [] E0 (tCons (tVar 0) (tCons (tVar 1) tNil))) (gName 2)) (tRet (tTup (tCons (tCB (uMax K) (tCons (tVar 2) tNil)) (tCons (tBM K "list" (rIndex K) (tVar 2) (tCons (tCB (uMax K) (tCons (tVar 2) tNil)) tNil)) tNil))))))
theorem ok_most_bearing {P : Program} {w : World} {K : PySem.W.Frag} {mg : Str → Option Value} {base : Heap} {sp : Sp} {sp_check_plants : Sp} {sp_bearings_of : Sp} (T : Tx K mg) (D_check_plants : Df P w K mg base ("check_plants" : Str) 4 [("life" : Str), ("plants" : Str)] sp_check_plants) (D_bearings_of : Df P w K mg base ("bearings_of" : Str) 2 [("life" : Str), ("plants" : Str)] sp_bearings_of)
    (len : ∀ vs H Q E, sp vs H Q E → vs.length = 2) (hp : ∀ vs H Q E, sp vs H Q E → t_most_bearing K sp_check_plants sp_bearings_of { nx := fun _ H' => Q .non H', rt := Q } (L2.start N_most_bearing vs) H)
    {f : Addr} {fd : FuncData} (F : Fun K ("most_bearing" : Str) ("most_bearing" : Str) s_most_bearing f fd) : FnOk P w K mg base CX0 5 f fd [("life" : Str), ("plants" : Str)] sp := by
  have nd := sc_most_bearing.nd
  refine F.ok sc_most_bearing len (fun cdv A outer s H vs Q E hr h => ⟨t_most_bearing K sp_check_plants sp_bearings_of, ?_, hp vs H Q E h⟩)
  exact (pss_cons (ps_expr (pe_callD D_check_plants (hr.mono (by decide)) (pa_cons (pv 0) (pa_cons (pv 1) pa_nil)))) (pss_cons (ps_set (i := 2) nd rfl (Or.inl rfl) (pe_callD D_bearings_of (hr.mono (by decide)) (pa_cons (pv 0) (pa_cons (pv 1) pa_nil)))) (pss_one (ps_ret (pe_tup (pa_cons (pe_callB (cr_uMax rfl) rfl T.b_max (by decide +kernel) (pa_cons (pv 2) pa_nil)) (pa_cons (pe_bm PySem.F.plainAttrs_list PySem.F.slot_list_index PySem.F.type_list_index mt_index (pv 2) (pa_cons (pe_callB (cr_uMax rfl) rfl T.b_max (by decide +kernel) (pa_cons (pv 2) pa_nil)) pa_nil)) pa_nil)))))))

abbrev s_bits_of : Stmt := top 63
abbrev N_bits_of : List Str := [("grove" : Str), ("palm" : Str), ("year" : Str)]
theorem sc_bits_of : FnScope N_bits_of [("grove" : Str), ("palm" : Str)] (defScope s_bits_of) := ⟨rfl, rfl, rfl, by decide +kernel, rfl, by decide +kernel, by decide +kernel⟩
def t_bits_of (K : PySem.W.Frag) (sp_bears_in : Sp) : TS :=
  (tRet (tLc (iRng1 (tCons (tC (.int 60)) tNil)) (gName 2) tYes (tCall sp_bears_in [] E0 (tCons (tVar 0) (tCons (tVar 1) (tCons (tVar 2) tNil)))) [2]))
theorem ok_bits_of {P : Program} {w : World} {K : PySem.W.Frag} {mg : Str → Option Value} {base : Heap} {sp : Sp} {sp_bears_in : Sp} (T : Tx K mg) (D_bears_in : Df P w K mg base ("bears_in" : Str) 2 [("grove" : Str), ("palm" : Str), ("year" : Str)] sp_bears_in)
    (len : ∀ vs H Q E, sp vs H Q E → vs.length = 2) (hp : ∀ vs H Q E, sp vs H Q E → t_bits_of K sp_bears_in { nx := fun _ H' => Q .non H', rt := Q } (L2.start N_bits_of vs) H)
    {f : Addr} {fd : FuncData} (F : Fun K ("bits_of" : Str) ("bits_of" : Str) s_bits_of f fd) : FnOk P w K mg base CX0 3 f fd [("grove" : Str), ("palm" : Str)] sp := by
  have nd := sc_bits_of.nd
  refine F.ok sc_bits_of len (fun cdv A outer s H vs Q E hr h => ⟨t_bits_of K sp_bears_in, ?_, hp vs H Q E h⟩)
  exact (pss_one (ps_ret (pe_lc (own := [(("year" : Str), 2)]) (g := (gName 2)) (tt := tYes) rfl nd (pi_range1 rfl T.b_range (pa_cons (pe_cst T.c_SIXTY_bearing) pa_nil)) (blkOk_by (N := N_bits_of) (sc := defScope s_bits_of) (by decide +kernel)) (fun _ _ _ _ _ => (pg_name (i := 2) nd rfl (Or.inl rfl))) (fun _ _ _ _ _ => pts_nil) (fun _ _ _ _ _ => (pe_callD D_bears_in (hr.mono (by decide)) (pa_cons (pv 0) (pa_cons (pv 1) (pa_cons (pv 2) pa_nil))))))))

abbrev s_years_of_lot : Stmt := top 64
abbrev N_years_of_lot : List Str := [("grove" : Str), ("lot" : Str), ("rows" : Str), ("palm" : Str), ("year" : Str), ("row" : Str)]
theorem sc_years_of_lot : FnScope N_years_of_lot [("grove" : Str), ("lot" : Str)] (defScope s_years_of_lot) := ⟨rfl, rfl, rfl, by decide +kernel, rfl, by decide +kernel, by decide +kernel⟩
def t_years_of_lot (K : PySem.W.Frag) (sp_bits_of : Sp) : TS :=
  (tSeq (tAsg (tLc (iAny K (tVar 1)) (gName 3) tYes (tCall sp_bits_of [] E0 (tCons (tVar 0) (tCons (tVar 3) tNil))) [3]) (gName 2)) (tRet (tLc (iRng1 (tCons (tC (.int 60)) tNil)) (gName 4) (tB (tCB (rAll K) (tCons (tLc (iAny K (tVar 2)) (gName 5) tYes (tOp (uIx K) (tVar 5) (tVar 4)) [5]) tNil))) (tVar 4) [4])))
theorem ok_years_of_lot {P : Program} {w : World} {K : PySem.W.Frag} {mg : Str → Option Value} {base : Heap} {sp : Sp} {sp_bits_of : Sp} (T : Tx K mg) (D_bits_of : Df P w K mg base ("bits_of" : Str) 3 [("grove" : Str), ("palm" : Str)] sp_bits_of)
    (len : ∀ vs H Q E, sp vs H Q E → vs.length = 2) (hp : ∀ vs H Q E, sp vs H Q E → t_years_of_lot K sp_bits_of { nx := fun _ H' => Q .non H', rt := Q } (L2.start N_years_of_lot vs) H)
    {f : Addr} {fd : FuncData} (F : Fun K ("years_of_lot" : Str) ("years_of_lot" : Str) s_years_of_lot f fd) : FnOk P w K mg base CX0 4 f fd [("grove" : Str), ("lot" : Str)] sp := by
  have nd := sc_years_of_lot.nd
  refine F.ok sc_years_of_lot len (fun cdv A outer s H vs Q E hr h => ⟨t_years_of_lot K sp_bits_of, ?_, hp vs H Q E h⟩)
  exact (pss_cons (ps_set (i := 2) nd rfl (Or.inr rfl) (pe_lc (own := [(("palm" : Str), 3)]) (g := (gName 3)) (tt := tYes) rfl nd (pi_any (pv 1)) (blkOk_by (N := N_years_of_lot) (sc := defScope s_years_of_lot) (by decide +kernel)) (fun _ _ _ _ _ => (pg_name (i := 3) nd rfl (Or.inl rfl))) (fun _ _ _ _ _ => pts_nil) (fun _ _ _ _ _ => (pe_callD D_bits_of (hr.mono (by decide)) (pa_cons (pv 0) (pa_cons (pv 3) pa_nil)))))) (pss_one (ps_ret (pe_lc (own := [(("year" : Str), 4)]) (g := (gName 4)) (tt := (tB (tCB (rAll K) (tCons (tLc (iAny K (tVar 2)) (gName 5) tYes (tOp (uIx K) (tVar 5) (tVar 4)) [5]) tNil)))) rfl nd (pi_range1 rfl T.b_range (pa_cons (pe_cst T.c_SIXTY_bearing) pa_nil)) (blkOk_by (N := N_years_of_lot) (sc := defScope s_years_of_lot) (by decide +kernel)) (fun _ _ _ _ _ => (pg_name (i := 4) nd rfl (Or.inr rfl))) (fun _ _ _ _ _ => (pts_one (pt_val (pe_callB (cr_all rfl) rfl T.b_all (by decide +kernel) (pa_cons (pe_lc (own := [(("row" : Str), 5)]) (g := (gName 5)) (tt := tYes) rfl nd (pi_any (pv 2)) (blkOk_by (by rfl)) (fun _ _ _ _ _ => (pg_name (i := 5) nd rfl (Or.inl rfl))) (fun _ _ _ _ _ => pts_nil) (fun _ _ _ _ _ => (pe_ix (ix_u hr.units) (pv 5) (pv 4) (fun _ _ => rfl)))) pa_nil))))) (fun _ _ _ _ _ => (pv 4))))))

abbrev s_is_some_lot : Stmt := top 65
abbrev N_is_some_lot : List Str := [("grove" : Str), ("value" : Str), ("name" : Str)]
theorem sc_is_some_lot : FnScope N_is_some_lot [("grove" : Str), ("value" : Str)] (defScope s_is_some_lot) := ⟨rfl, rfl, rfl, by decide +kernel, rfl, by decide +kernel, by decide +kernel⟩
def t_is_some_lot (K : PySem.W.Frag) (C_Grove : Addr) (sp_Grove_palm_names : Sp) : TS :=
  (tSeq (tIfS ((tOr (tNot (tB (tCB (rIsi K) (tCons (tVar 1) (tCons (tC (.ty "tuple")) tNil))))) (tNot (tB (tCB (rAll K) (tCons (tLc (iAny K (tVar 1)) (gName 2) tYes (tCB (rIsi K) (tCons (tVar 2) (tCons (tC (.ty "str")) tNil))) [2]) tNil)))))) (tRet (tC (.bl false))) tNext) (tRet (tOp (uEq K) (tVar 1) (tCB (rTupS K) (tCons (tLc (iAny K (tMeth C_Grove ("palm_names" : Str) sp_Grove_palm_names [] E0 (tVar 0) tNil)) (gName 2) (tTest (tOp (uIn K) (tVar 2) (tVar 1))) (tVar 2) [2]) tNil)))))
theorem ok_is_some_lot {P : Program} {w : World} {K : PySem.W.Frag} {mg : Str → Option Value} {base : Heap} {sp : Sp} {C_Grove : Addr} {sp_Grove_palm_names : Sp} (T : Tx K mg) (D_Grove_palm_names : Dm P w K mg base C_Grove ("palm_names" : Str) 1 [("self" : Str)] sp_Grove_palm_names)
    (len : ∀ vs H Q E, sp vs H Q E → vs.length = 2) (hp : ∀ vs H Q E, sp vs H Q E → t_is_some_lot K C_Grove sp_Grove_palm_names { nx := fun _ H' => Q .non H', rt := Q } (L2.start N_is_some_lot vs) H)
    {f : Addr} {fd : FuncData} (F : Fun K ("is_some_lot" : Str) ("is_some_lot" : Str) s_is_some_lot f fd) : FnOk P w K mg base CX0 2 f fd [("grove" : Str), ("value" : Str)] sp := by
  have nd := sc_is_some_lot.nd
  refine F.ok sc_is_some_lot len (fun cdv A outer s H vs Q E hr h => ⟨t_is_some_lot K C_Grove sp_Grove_palm_names, ?_, hp vs H Q E h⟩)
  exact (pss_cons (ps_if (PW.pt (pw_or (pt_not (pt_val (pe_callB call_isi rfl T.b_isinstance (by decide +kernel) (pa_cons (pv 1) (pa_cons (pe_bltn rfl T.b_tuple (by decide +kernel) rfl) pa_nil))))) (pw_or1 (pt_not (pt_val (pe_callB (cr_all rfl) rfl T.b_all (by decide +kernel) (pa_cons (pe_lc (own := [(("name" : Str), 2)]) (g := (gName 2)) (tt := tYes) rfl nd (pi_any (pv 1)) (blkOk_by (N := N_is_some_lot) (sc := defScope s_is_some_lot) (by decide +kernel)) (fun _ _ _ _ _ => (pg_name (i := 2) nd rfl (Or.inl rfl))) (fun _ _ _ _ _ => pts_nil) (fun _ _ _ _ _ => (pe_callB call_isi rfl T.b_isinstance (by decide +kernel) (pa_cons (pv 2) (pa_cons (pe_bltn rfl T.b_str (by decide +kernel) rfl) pa_nil))))) pa_nil))))))) (pss_one (ps_ret (pe_bl))) pss_nil) (pss_one (ps_ret (pe_cmpR (op_uEq hr.units) (pv 1) (pe_callTy cr_uTup rfl T.b_tuple (by decide +kernel) (pa_cons (pe_lc (own := [(("name" : Str), 2)]) (g := (gName 2)) (tt := (tTest (tOp (uIn K) (tVar 2) (tVar 1)))) rfl nd (pi_any (pe_meth0D D_Grove_palm_names (hr.mono (by decide)) (pv 0))) (blkOk_by (N := N_is_some_lot) (sc := defScope s_is_some_lot) (by decide +kernel)) (fun _ _ _ _ _ => (pg_name (i := 2) nd rfl (Or.inl rfl))) (fun _ _ _ _ _ => (pts_one (pt_cmpR (op_uIn hr.units) (pv 2) (pv 1) (by rfl)))) (fun _ _ _ _ _ => (pv 2))) pa_nil)) (nomark _)))))

abbrev s_years_all : Stmt := top 66
abbrev N_years_all : List Str := [("grove" : Str), ("lot" : Str)]
theorem sc_years_all : FnScope N_years_all [("grove" : Str), ("lot" : Str)] (defScope s_years_all) := ⟨rfl, rfl, rfl, by decide +kernel, rfl, by decide +kernel, by decide +kernel⟩
def t_years_all (K : PySem.W.Frag) (sp_check_grove : Sp) (sp_is_some_lot : Sp) (sp_years_of_lot : Sp) : TS :=
  (tSeq (tDrop (tCall sp_check_grove [] E0 (tCons (tVar 0) tNil))) (tSeq (tIfS (tNot (tB (tCall sp_is_some_lot [] E0 (tCons (tVar 0) (tCons (tVar 1) tNil))))) (tNever) tNext) (tRet (tCB (rTupS K) (tCons (tCall sp_years_of_lot [] E0 (tCons (tVar 0) (tCons (tVar 1) tNil))) tNil)))))
theorem ok_years_all {P : Program} {w : World} {K : PySem.W.Frag} {mg : Str → Option Value} {base : Heap} {sp : Sp} {sp_check_grove : Sp} {sp_is_some_lot : Sp} {sp_years_of_lot : Sp} (T : Tx K mg) (D_check_grove : Df P w K mg base ("check_grove" : Str) 1 [("grove" : Str)] sp_check_grove) (D_is_some_lot : Df P w K mg base ("is_some_lot" : Str) 2 [("grove" : Str), ("value" : Str)] sp_is_some_lot) (D_years_of_lot : Df P w K mg base ("years_of_lot" : Str) 4 [("grove" : Str), ("lot" : Str)] sp_years_of_lot)
    (len : ∀ vs H Q E, sp vs H Q E → vs.length = 2) (hp : ∀ vs H Q E, sp vs H Q E → t_years_all K sp_check_grove sp_is_some_lot sp_years_of_lot { nx := fun _ H' => Q .non H', rt := Q } (L2.start N_years_all vs) H)
    {f : Addr} {fd : FuncData} (F : Fun K ("years_all" : Str) ("years_all" : Str) s_years_all f fd) : FnOk P w K mg base CX0 5 f fd [("grove" : Str), ("lot" : Str)] sp := by
  have nd := sc_years_all.nd
  refine F.ok sc_years_all len (fun cdv A outer s H vs Q E hr h => ⟨t_years_all K sp_check_grove sp_is_some_lot sp_years_of_lot, ?_, hp vs H Q E h⟩)
  exact (pss_cons (ps_expr (pe_callD D_check_grove (hr.mono (by decide)) (pa_cons (pv 0) pa_nil))) (pss_cons (ps_if (pt_not (pt_val (pe_callD D_is_some_lot (hr.mono (by decide)) (pa_cons (pv 0) (pa_cons (pv 1) pa_nil))))) (pss_one (ps_never)) pss_nil) (pss_one (ps_ret (pe_callTy cr_uTup rfl T.b_tuple (by decide +kernel) (pa_cons (pe_callD D_years_of_lot (hr.mono (by decide)) (pa_cons (pv 0) (pa_cons (pv 1) pa_nil))) pa_nil))))))

abbrev s_sums_of : Stmt := top 67
abbrev N_sums_of : List Str := [("grove" : Str), ("year" : Str)]
theorem sc_sums_of : FnScope N_sums_of [("grove" : Str)] (defScope s_sums_of) := ⟨rfl, rfl, rfl, by decide +kernel, rfl, by decide +kernel, by decide +kernel⟩
def t_sums_of (K : PySem.W.Frag) (sp_baskets_in : Sp) : TS :=
  (tRet (tLc (iRng1 (tCons (tC (.int 60)) tNil)) (gName 1) tYes (tCall sp_baskets_in [] E0 (tCons (tVar 0) (tCons (tVar 1) tNil))) [1]))
theorem ok_sums_of {P : Program} {w : World} {K : PySem.W.Frag} {mg : Str → Option Value} {base : Heap} {sp : Sp} {sp_baskets_in : Sp} (T : Tx K mg) (D_baskets_in : Df P w K mg base ("baskets_in" : Str) 3 [("grove" : Str), ("year" : Str)] sp_baskets_in)
    (len : ∀ vs H Q E, sp vs H Q E → vs.length = 1) (hp : ∀ vs H Q E, sp vs H Q E → t_sums_of K sp_baskets_in { nx := fun _ H' => Q .non H', rt := Q } (L2.start N_sums_of vs) H)
    {f : Addr} {fd : FuncData} (F : Fun K ("sums_of" : Str) ("sums_of" : Str) s_sums_of f fd) : FnOk P w K mg base CX0 4 f fd [("grove" : Str)] sp := by
  have nd := sc_sums_of.nd
  refine F.ok sc_sums_of len (fun cdv A outer s H vs Q E hr h => ⟨t_sums_of K sp_baskets_in, ?_, hp vs H Q E h⟩)
  exact (pss_one (ps_ret (pe_lc (own := [(("year" : Str), 1)]) (g := (gName 1)) (tt := tYes) rfl nd (pi_range1 rfl T.b_range (pa_cons (pe_cst T.c_SIXTY_bearing) pa_nil)) (blkOk_by (N := N_sums_of) (sc := defScope s_sums_of) (by decide +kernel)) (fun _ _ _ _ _ => (pg_name (i := 1) nd rfl (Or.inl rfl))) (fun _ _ _ _ _ => pts_nil) (fun _ _ _ _ _ => (pe_callD D_baskets_in (hr.mono (by decide)) (pa_cons (pv 0) (pa_cons (pv 1) pa_nil)))))))

abbrev s_most_baskets : Stmt := top 68
abbrev N_most_baskets : List Str := [("grove" : Str), ("sums" : Str)]
theorem sc_most_baskets : FnScope N_most_baskets [("grove" : Str)] (defScope s_most_baskets) := ⟨rfl, rfl, rfl, by decide +kernel, rfl, by decide +kernel, by decide +kernel⟩
def t_most_baskets (K : PySem.W.Frag) (sp_check_grove : Sp) (sp_sums_of : Sp) : TS :=
  (tSeq (tDrop (tCall sp_check_grove [] E0 (tCons (tVar 0) tNil))) (tSeq (tAsg (tCall sp_sums_of [] E0 (tCons (tVar 0) tNil)) (gName 1)) (tRet (tTup (tCons (tCB (uMax K) (tCons (tVar 1) tNil)) (tCons (tBM K "list" (rIndex K) (tVar 1) (tCons (tCB (uMax K) (tCons (tVar 1) tNil)) tNil)) tNil))))))
theorem ok_most_baskets {P : Program} {w : World} {K : PySem.W.Frag} {mg : Str → Option Value} {base : Heap} {sp : Sp} {sp_check_grove : Sp} {sp_sums_of : Sp} (T : Tx K mg) (D_check_grove : Df P w K mg base ("check_grove" : Str) 1 [("grove" : Str)] sp_check_grove) (D_sums_of : Df P w K mg base ("sums_of" : Str) 4 [("grove" : Str)] sp_sums_of)
    (len : ∀ vs H Q E, sp vs H Q E → vs.length = 1) (hp : ∀ vs H Q E, sp vs H Q E → t_most_baskets K sp_check_grove sp_sums_of { nx := fun _ H' => Q .non H', rt := Q } (L2.start N_most_baskets vs) H)
    {f : Addr} {fd : FuncData} (F : Fun K ("most_baskets" : Str) ("most_baskets" : Str) s_most_baskets f fd) : FnOk P w K mg base CX0 5 f fd [("grove" : Str)] sp := by
  have nd := sc_most_baskets.nd
  refine F.ok sc_most_baskets len (fun cdv A outer s H vs Q E hr h => ⟨t_most_baskets K sp_check_grove sp_sums_of, ?_, hp vs H Q E h⟩)
  exact (pss_cons (ps_expr (pe_callD D_check_grove (hr.mono (by decide)) (pa_cons (pv 0) pa_nil))) (pss_cons (ps_set (i := 1) nd rfl (Or.inl rfl) (pe_callD D_sums_of (hr.mono (by decide)) (pa_cons (pv 0) pa_nil))) (pss_one (ps_ret (pe_tup (pa_cons (pe_callB (cr_uMax rfl) rfl T.b_max (by decide +kernel) (pa_cons (pv 1) pa_nil)) (pa_cons (pe_bm PySem.F.plainAttrs_list PySem.F.slot_list_index PySem.F.type_list_index mt_index (pv 1) (pa_cons (pe_callB (cr_uMax rfl) rfl T.b_max (by decide +kernel) (pa_cons (pv 1) pa_nil)) pa_nil)) pa_nil)))))))

abbrev s_least_baskets : Stmt := top 69
abbrev N_least_baskets : List Str := [("grove" : Str), ("sums" : Str)]
theorem sc_least_baskets : FnScope N_least_baskets [("grove" : Str)] (defScope s_least_baskets) := ⟨rfl, rfl, rfl, by decide +kernel, rfl, by decide +kernel, by decide +kernel⟩
def t_least_baskets (K : PySem.W.Frag) (sp_check_grove : Sp) (sp_sums_of : Sp) : TS :=
  (tSeq (tDrop (tCall sp_check_grove [] E0 (tCons (tVar 0) tNil))) (tSeq (tAsg (tCall sp_sums_of [] E0 (tCons (tVar 0) tNil)) (gName 1)) (tRet (tTup (tCons (tCB (uMin K) (tCons (tVar 1) tNil)) (tCons (tBM K "list" (rIndex K) (tVar 1) (tCons (tCB (uMin K) (tCons (tVar 1) tNil)) tNil)) tNil))))))
theorem ok_least_baskets {P : Program} {w : World} {K : PySem.W.Frag} {mg : Str → Option Value} {base : Heap} {sp : Sp} {sp_check_grove : Sp} {sp_sums_of : Sp} (T : Tx K mg) (D_check_grove : Df P w K mg base ("check_grove" : Str) 1 [("grove" : Str)] sp_check_grove) (D_sums_of : Df P w K mg base ("sums_of" : Str) 4 [("grove" : Str)] sp_sums_of)
    (len : ∀ vs H Q E, sp vs H Q E → vs.length = 1) (hp : ∀ vs H Q E, sp vs H Q E → t_least_baskets K sp_check_grove sp_sums_of { nx := fun _ H' => Q .non H', rt := Q } (L2.start N_least_baskets vs) H)
    {f : Addr} {fd : FuncData} (F : Fun K ("least_baskets" : Str) ("least_baskets" : Str) s_least_baskets f fd) : FnOk P w K mg base CX0 5 f fd [("grove" : Str)] sp := by
  have nd := sc_least_baskets.nd
  refine F.ok sc_least_baskets len (fun cdv A outer s H vs Q E hr h => ⟨t_least_baskets K sp_check_grove sp_sums_of, ?_, hp vs H Q E h⟩)
  exact (pss_cons (ps_expr (pe_callD D_check_grove (hr.mono (by decide)) (pa_cons (pv 0) pa_nil))) (pss_cons (ps_set (i := 1) nd rfl (Or.inl rfl) (pe_callD D_sums_of (hr.mono (by decide)) (pa_cons (pv 0) pa_nil))) (pss_one (ps_ret (pe_tup (pa_cons (pe_callB (cr_uMin rfl) rfl T.b_min (by decide +kernel) (pa_cons (pv 1) pa_nil)) (pa_cons (pe_bm PySem.F.plainAttrs_list PySem.F.slot_list_index PySem.F.type_list_index mt_index (pv 1) (pa_cons (pe_callB (cr_uMin rfl) rfl T.b_min (by decide +kernel) (pa_cons (pv 1) pa_nil)) pa_nil)) pa_nil)))))))

abbrev s_mean_baskets : Stmt := top 70
abbrev N_mean_baskets : List Str := [("grove" : Str)]
theorem sc_mean_baskets : FnScope N_mean_baskets [("grove" : Str)] (defScope s_mean_baskets) := ⟨rfl, rfl, rfl, by decide +kernel, rfl, by decide +kernel, by decide +kernel⟩
def t_mean_baskets (K : PySem.W.Frag) (sp_check_grove : Sp) (sp_reduced : Sp) (sp_sums_of : Sp) : TS :=
  (tSeq (tDrop (tCall sp_check_grove [] E0 (tCons (tVar 0) tNil))) (tRet (tCall sp_reduced [] E0 (tCons (tCB (rSum K) (tCons (tCall sp_sums_of [] E0 (tCons (tVar 0) tNil)) tNil)) (tCons (tC (.int 60)) tNil)))))
theorem ok_mean_baskets {P : Program} {w : World} {K : PySem.W.Frag} {mg : Str → Option Value} {base : Heap} {sp : Sp} {sp_check_grove : Sp} {sp_reduced : Sp} {sp_sums_of : Sp} (T : Tx K mg) (D_check_grove : Df P w K mg base ("check_grove" : Str) 1 [("grove" : Str)] sp_check_grove) (D_reduced : Df P w K mg base ("reduced" : Str) 2 [("top" : Str), ("low" : Str)] sp_reduced) (D_sums_of : Df P w K mg base ("sums_of" : Str) 4 [("grove" : Str)] sp_sums_of)
    (len : ∀ vs H Q E, sp vs H Q E → vs.length = 1) (hp : ∀ vs H Q E, sp vs H Q E → t_mean_baskets K sp_check_grove sp_reduced sp_sums_of { nx := fun _ H' => Q .non H', rt := Q } (L2.start N_mean_baskets vs) H)
    {f : Addr} {fd : FuncData} (F : Fun K ("mean_baskets" : Str) ("mean_baskets" : Str) s_mean_baskets f fd) : FnOk P w K mg base CX0 5 f fd [("grove" : Str)] sp := by
  have nd := sc_mean_baskets.nd
  refine F.ok sc_mean_baskets len (fun cdv A outer s H vs Q E hr h => ⟨t_mean_baskets K sp_check_grove sp_reduced sp_sums_of, ?_, hp vs H Q E h⟩)
  exact (pss_cons (ps_expr (pe_callD D_check_grove (hr.mono (by decide)) (pa_cons (pv 0) pa_nil))) (pss_one (ps_ret (pe_callD D_reduced (hr.mono (by decide)) (pa_cons (pe_callB (cr_sum rfl) rfl T.b_sum (by decide +kernel) (pa_cons (pe_callD D_sums_of (hr.mono (by decide)) (pa_cons (pv 0) pa_nil)) pa_nil)) (pa_cons (pe_cst T.c_SIXTY_bearing) pa_nil))))))

abbrev s_lengths_of : Stmt := top 74
abbrev N_lengths_of : List Str := [("grove" : Str), ("name" : Str)]
theorem sc_lengths_of : FnScope N_lengths_of [("grove" : Str)] (defScope s_lengths_of) := ⟨rfl, rfl, rfl, by decide +kernel, rfl, by decide +kernel, by decide +kernel⟩
def t_lengths_of (K : PySem.W.Frag) (C_Grove : Addr) (sp_Grove_palm_names : Sp) (sp_Grove_years_of : Sp) : TS :=
  (tRet (tLc (iAny K (tMeth C_Grove ("palm_names" : Str) sp_Grove_palm_names [] E0 (tVar 0) tNil)) (gName 1) tYes (tCB (uLen K) (tCons (tMeth C_Grove ("years_of" : Str) sp_Grove_years_of [] E0 (tVar 0) (tCons (tVar 1) tNil)) tNil)) [1]))
theorem ok_lengths_of {P : Program} {w : World} {K : PySem.W.Frag} {mg : Str → Option Value} {base : Heap} {sp : Sp} {C_Grove : Addr} {sp_Grove_palm_names : Sp} {sp_Grove_years_of : Sp} (T : Tx K mg) (D_Grove_palm_names : Dm P w K mg base C_Grove ("palm_names" : Str) 1 [("self" : Str)] sp_Grove_palm_names) (D_Grove_years_of : Dm P w K mg base C_Grove ("years_of" : Str) 1 [("self" : Str), ("name" : Str)] sp_Grove_years_of)
    (len : ∀ vs H Q E, sp vs H Q E → vs.length = 1) (hp : ∀ vs H Q E, sp vs H Q E → t_lengths_of K C_Grove sp_Grove_palm_names sp_Grove_years_of { nx := fun _ H' => Q .non H', rt := Q } (L2.start N_lengths_of vs) H)
    {f : Addr} {fd : FuncData} (F : Fun K ("lengths_of" : Str) ("lengths_of" : Str) s_lengths_of f fd) : FnOk P w K mg base CX0 2 f fd [("grove" : Str)] sp := by
  have nd := sc_lengths_of.nd
  refine F.ok sc_lengths_of len (fun cdv A outer s H vs Q E hr h => ⟨t_lengths_of K C_Grove sp_Grove_palm_names sp_Grove_years_of, ?_, hp vs H Q E h⟩)
  exact (pss_one (ps_ret (pe_lc (own := [(("name" : Str), 1)]) (g := (gName 1)) (tt := tYes) rfl nd (pi_any (pe_meth0D D_Grove_palm_names (hr.mono (by decide)) (pv 0))) (blkOk_by (N := N_lengths_of) (sc := defScope s_lengths_of) (by decide +kernel)) (fun _ _ _ _ _ => (pg_name (i := 1) nd rfl (Or.inl rfl))) (fun _ _ _ _ _ => pts_nil) (fun _ _ _ _ _ => (pe_callB cr_uLen rfl T.b_len (by decide +kernel) (pa_cons (pe_methD D_Grove_years_of (hr.mono (by decide)) (pv 0) (pa_cons (pv 1) pa_nil)) pa_nil))))))

abbrev s_shift_count : Stmt := top 75
abbrev N_shift_count : List Str := [("grove" : Str), ("found" : Str), ("long" : Str)]
theorem sc_shift_count : FnScope N_shift_count [("grove" : Str)] (defScope s_shift_count) := ⟨rfl, rfl, rfl, by decide +kernel, rfl, by decide +kernel, by decide +kernel⟩
def t_shift_count (K : PySem.W.Frag) (sp_lengths_of : Sp) : TS :=
  (tSeq (tAsg (tC (.int 1)) (gName 1)) (tSeq (tFor (iAny K (tCall sp_lengths_of [] E0 (tCons (tVar 0) tNil))) (gName 2) (tAsg (tOp (uMul K) (tVar 1) (tVar 2)) (gName 1))) (tRet (tVar 1))))
theorem ok_shift_count {P : Program} {w : World} {K : PySem.W.Frag} {mg : Str → Option Value} {base : Heap} {sp : Sp} {sp_lengths_of : Sp} (T : Tx K mg) (D_lengths_of : Df P w K mg base ("lengths_of" : Str) 2 [("grove" : Str)] sp_lengths_of)
    (len : ∀ vs H Q E, sp vs H Q E → vs.length = 1) (hp : ∀ vs H Q E, sp vs H Q E → t_shift_count K sp_lengths_of { nx := fun _ H' => Q .non H', rt := Q } (L2.start N_shift_count vs) H)
    {f : Addr} {fd : FuncData} (F : Fun K ("shift_count" : Str) ("shift_count" : Str) s_shift_count f fd) : FnOk P w K mg base CX0 3 f fd [("grove" : Str)] sp := by
  have nd := sc_shift_count.nd
  refine F.ok sc_shift_count len (fun cdv A outer s H vs Q E hr h => ⟨t_shift_count K sp_lengths_of, ?_, hp vs H Q E h⟩)
  exact (pss_cons (ps_set (i := 1) nd rfl (Or.inl rfl) (pe_int)) (pss_cons (ps_for PassesOwn.never rfl (pi_any (pe_callD D_lengths_of (hr.mono (by decide)) (pa_cons (pv 0) pa_nil))) (pg_name (i := 2) nd rfl (Or.inl rfl)) (pss_one (ps_set (i := 1) nd rfl (Or.inl rfl) (pe_op op_uMul (pv 1) (pv 2))))) (pss_one (ps_ret (pv 1)))))

abbrev s_check_shifts_few : Stmt := top 76
abbrev N_check_shifts_few : List Str := [("grove" : Str)]
theorem sc_check_shifts_few : FnScope N_check_shifts_few [("grove" : Str)] (defScope s_check_shifts_few) := ⟨rfl, rfl, rfl, by decide +kernel, rfl, by decide +kernel, by decide +kernel⟩
def t_check_shifts_few (K : PySem.W.Frag) (sp_check_grove : Sp) (sp_shift_count : Sp) : TS :=
  (tSeq (tDrop (tCall sp_check_grove [] E0 (tCons (tVar 0) tNil))) (tIfS (tTest (tOp (uGt) (tCall sp_shift_count [] E0 (tCons (tVar 0) tNil)) (tC (.int 1000)))) (tNever) tNext))
theorem ok_check_shifts_few {P : Program} {w : World} {K : PySem.W.Frag} {mg : Str → Option Value} {base : Heap} {sp : Sp} {sp_check_grove : Sp} {sp_shift_count : Sp} (T : Tx K mg) (D_check_grove : Df P w K mg base ("check_grove" : Str) 1 [("grove" : Str)] sp_check_grove) (D_shift_count : Df P w K mg base ("shift_count" : Str) 3 [("grove" : Str)] sp_shift_count)
    (len : ∀ vs H Q E, sp vs H Q E → vs.length = 1) (hp : ∀ vs H Q E, sp vs H Q E → t_check_shifts_few K sp_check_grove sp_shift_count { nx := fun _ H' => Q .non H', rt := Q } (L2.start N_check_shifts_few vs) H)
    {f : Addr} {fd : FuncData} (F : Fun K ("check_shifts_few" : Str) ("check_shifts_few" : Str) s_check_shifts_few f fd) : FnOk P w K mg base CX0 4 f fd [("grove" : Str)] sp := by
  have nd := sc_check_shifts_few.nd
  refine F.ok sc_check_shifts_few len (fun cdv A outer s H vs Q E hr h => ⟨t_check_shifts_few K sp_check_grove sp_shift_count, ?_, hp vs H Q E h⟩)
  exact (pss_cons (ps_expr (pe_callD D_check_grove (hr.mono (by decide)) (pa_cons (pv 0) pa_nil))) (pss_one (ps_if (pt_cmpR op_uGt (pe_callD D_shift_count (hr.mono (by decide)) (pa_cons (pv 0) pa_nil)) (pe_cst T.c_MOST_SHIFTS) (nomark _)) (pss_one (ps_never)) pss_nil)))

abbrev s_all_shifts : Stmt := top 77
abbrev N_all_shifts : List Str := [("grove" : Str), ("rows" : Str), ("long" : Str), ("longer" : Str), ("row" : Str), ("shift" : Str)]
theorem sc_all_shifts : FnScope N_all_shifts [("grove" : Str)] (defScope s_all_shifts) := ⟨rfl, rfl, rfl, by decide +kernel, rfl, by decide +kernel, by decide +kernel⟩
def t_all_shifts (K : PySem.W.Frag) (sp_lengths_of : Sp) : TS :=
  (tSeq (tAsg (tLst (tCons (tTup tNil) tNil)) (gName 1)) (tSeq (tFor (iAny K (tCall sp_lengths_of [] E0 (tCons (tVar 0) tNil))) (gName 2) (tSeq (tAsg (tLst tNil) (gName 3)) (tSeq (tFor (iAny K (tVar 1)) (gName 4) (tDrop (tBM K "list" (rExtend) (tVar 3) (tCons (tLc (iRng1 (tCons (tVar 2) tNil)) (gName 5) tYes (tTup (tStar K (tVar 4) (tCons (tVar 5) tNil))) [5]) tNil)))) (tAsg (tVar 3) (gName 1))))) (tRet (tVar 1))))
theorem ok_all_shifts {P : Program} {w : World} {K : PySem.W.Frag} {mg : Str → Option Value} {base : Heap} {sp : Sp} {sp_lengths_of : Sp} (T : Tx K mg) (D_lengths_of : Df P w K mg base ("lengths_of" : Str) 2 [("grove" : Str)] sp_lengths_of)
    (len : ∀ vs H Q E, sp vs H Q E → vs.length = 1) (hp : ∀ vs H Q E, sp vs H Q E → t_all_shifts K sp_lengths_of { nx := fun _ H' => Q .non H', rt := Q } (L2.start N_all_shifts vs) H)
    {f : Addr} {fd : FuncData} (F : Fun K ("all_shifts" : Str) ("all_shifts" : Str) s_all_shifts f fd) : FnOk P w K mg base CX0 3 f fd [("grove" : Str)] sp := by
  have nd := sc_all_shifts.nd
  refine F.ok sc_all_shifts len (fun cdv A outer s H vs Q E hr h => ⟨t_all_shifts K sp_lengths_of, ?_, hp vs H Q E h⟩)
  exact (pss_cons (ps_set (i := 1) nd rfl (Or.inl rfl) (pe_lst (pa_cons (pe_tup pa_nil) pa_nil))) (pss_cons (ps_for PassesOwn.never rfl (pi_any (pe_callD D_lengths_of (hr.mono (by decide)) (pa_cons (pv 0) pa_nil))) (pg_name (i := 2) nd rfl (Or.inl rfl)) (pss_cons (ps_set (i := 3) nd rfl (Or.inl rfl) (pe_lst pa_nil)) (pss_cons (ps_for PassesOwn.never rfl (pi_any (pv 1)) (pg_name (i := 4) nd rfl (Or.inr rfl)) (pss_one (ps_expr (pe_bm PySem.F.plainAttrs_list PySem.F.slot_list_extend PySem.F.type_list_extend mt_extend (pv 3) (pa_cons (pe_lc (own := [(("shift" : Str), 5)]) (g := (gName 5)) (tt := tYes) rfl nd (pi_range1 rfl T.b_range (pa_cons (pv 2) pa_nil)) (blkOk_by (N := N_all_shifts) (sc := defScope s_all_shifts) (by decide +kernel)) (fun _ _ _ _ _ => (pg_name (i := 5) nd rfl (Or.inl rfl))) (fun _ _ _ _ _ => pts_nil) (fun _ _ _ _ _ => (pe_tup (pa_star (pv 4) (pa_cons (pv 5) pa_nil))))) pa_nil))))) (pss_one (ps_set (i := 1) nd rfl (Or.inl rfl) (pv 3)))))) (pss_one (ps_ret (pv 1)))))

abbrev s_rows_shifted : Stmt := top 78
abbrev N_rows_shifted : List Str := [("grove" : Str), ("found" : Str), ("name" : Str), ("long" : Str), ("years" : Str), ("dates" : Str), ("rows" : Str), ("shift" : Str), ("year" : Str)]
theorem sc_rows_shifted : FnScope N_rows_shifted [("grove" : Str)] (defScope s_rows_shifted) := ⟨rfl, rfl, rfl, by decide +kernel, rfl, by decide +kernel, by decide +kernel⟩
def t_rows_shifted (K : PySem.W.Frag) (C_Grove : Addr) (sp_lengths_of : Sp) (sp_Grove_palm_names : Sp) (sp_Grove_dates_of : Sp) (sp_Grove_years_of : Sp) : TS :=
  (tSeq (tAsg (tLst tNil) (gName 1)) (tSeq (tFor (iZp K (tCons (tMeth C_Grove ("palm_names" : Str) sp_Grove_palm_names [] E0 (tVar 0) tNil) (tCons (tCall sp_lengths_of [] E0 (tCons (tVar 0) tNil)) tNil))) (gU K 2 (gCons (gName 2) (gCons (gName 3) gNil))) (tSeq (tAsg (tTup (tCons (tMeth C_Grove ("years_of" : Str) sp_Grove_years_of [] E0 (tVar 0) (tCons (tVar 2) tNil)) (tCons (tMeth C_Grove ("dates_of" : Str) sp_Grove_dates_of [] E0 (tVar 0) (tCons (tVar 2) tNil)) tNil))) (gU K 2 (gCons (gName 4) (gCons (gName 5) gNil)))) (tSeq (tAsg (tLst tNil) (gName 6)) (tSeq (tFor (iRng1 (tCons (tVar 3) tNil)) (gName 7) (tDrop (tBM K "list" (rAppend) (tVar 6) (tCons (tLc (iRng1 (tCons (tC (.int 60)) tNil)) (gName 8) tYes (tOp (uMul K) (tVar 5) (tCB (uInt) (tCons (tOp (uEq K) (tOp (uIx K) (tVar 4) (tOp (uMod) (tOp (uAdd K) (tVar 8) (tVar 7)) (tVar 3))) (tC (.str ("1" : Str)))) tNil))) [8]) tNil)))) (tDrop (tBM K "list" (rAppend) (tVar 1) (tCons (tVar 6) tNil))))))) (tRet (tVar 1))))
theorem ok_rows_shifted {P : Program} {w : World} {K : PySem.W.Frag} {mg : Str → Option Value} {base : Heap} {sp : Sp} {C_Grove : Addr} {sp_lengths_of : Sp} {sp_Grove_palm_names : Sp} {sp_Grove_dates_of : Sp} {sp_Grove_years_of : Sp} (T : Tx K mg) (D_lengths_of : Df P w K mg base ("lengths_of" : Str) 2 [("grove" : Str)] sp_lengths_of) (D_Grove_palm_names : Dm P w K mg base C_Grove ("palm_names" : Str) 1 [("self" : Str)] sp_Grove_palm_names) (D_Grove_dates_of : Dm P w K mg base C_Grove ("dates_of" : Str) 1 [("self" : Str), ("name" : Str)] sp_Grove_dates_of) (D_Grove_years_of : Dm P w K mg base C_Grove ("years_of" : Str) 1 [("self" : Str), ("name" : Str)] sp_Grove_years_of)
    (len : ∀ vs H Q E, sp vs H Q E → vs.length = 1) (hp : ∀ vs H Q E, sp vs H Q E → t_rows_shifted K C_Grove sp_lengths_of sp_Grove_palm_names sp_Grove_dates_of sp_Grove_years_of { nx := fun _ H' => Q .non H', rt := Q } (L2.start N_rows_shifted vs) H)
    {f : Addr} {fd : FuncData} (F : Fun K ("rows_shifted" : Str) ("rows_shifted" : Str) s_rows_shifted f fd) : FnOk P w K mg base CX0 3 f fd [("grove" : Str)] sp := by
  have nd := sc_rows_shifted.nd
  refine F.ok sc_rows_shifted len (fun cdv A outer s H vs Q E hr h => ⟨t_rows_shifted K C_Grove sp_lengths_of sp_Grove_palm_names sp_Grove_dates_of sp_Grove_years_of, ?_, hp vs H Q E h⟩)
  exact (pss_cons (ps_set (i := 1) nd rfl (Or.inl rfl) (pe_lst pa_nil)) (pss_cons (ps_for PassesOwn.never rfl (pi_zp rfl T.b_zip (pa_cons (pe_meth0D D_Grove_palm_names (hr.mono (by decide)) (pv 0)) (pa_cons (pe_callD D_lengths_of (hr.mono (by decide)) (pa_cons (pv 0) pa_nil)) pa_nil))) (pg_gU rfl (pgs_cons (pg_name (i := 2) nd rfl (Or.inl rfl)) (pgs_cons (pg_name (i := 3) nd rfl (Or.inr rfl)) pgs_nil))) (pss_cons (ps_asg (pe_tup (pa_cons (pe_methD D_Grove_years_of (hr.mono (by decide)) (pv 0) (pa_cons (pv 2) pa_nil)) (pa_cons (pe_methD D_Grove_dates_of (hr.mono (by decide)) (pv 0) (pa_cons (pv 2) pa_nil)) pa_nil))) (pg_gU rfl (pgs_cons (pg_name (i := 4) nd rfl (Or.inr rfl)) (pgs_cons (pg_name (i := 5) nd rfl (Or.inr rfl)) pgs_nil)))) (pss_cons (ps_set (i := 6) nd rfl (Or.inl rfl) (pe_lst pa_nil)) (pss_cons (ps_for PassesOwn.never rfl (pi_range1 rfl T.b_range (pa_cons (pv 3) pa_nil)) (pg_name (i := 7) nd rfl (Or.inr rfl)) (pss_one (ps_expr (pe_bm PySem.F.plainAttrs_list PySem.F.slot_list_append PySem.F.type_list_append mt_append (pv 6) (pa_cons (pe_lc (own := [(("year" : Str), 8)]) (g := (gName 8)) (tt := tYes) rfl nd (pi_range1 rfl T.b_range (pa_cons (pe_cst T.c_SIXTY_evening) pa_nil)) (blkOk_by (N := N_rows_shifted) (sc := defScope s_rows_shifted) (by decide +kernel)) (fun _ _ _ _ _ => (pg_name (i := 8) nd rfl (Or.inl rfl))) (fun _ _ _ _ _ => pts_nil) (fun _ _ _ _ _ => (pe_op op_uMul (pv 5) (pe_callTy cr_uInt rfl T.b_int (by decide +kernel) (pa_cons (pe_cmpR (op_uEq hr.units) (pe_ix (ix_u hr.units) (pv 4) (pe_op op_uMod (pe_op op_uAdd (pv 8) (pv 7)) (pv 3)) (fun _ _ => rfl)) (pe_str) (nomark _)) pa_nil))))) pa_nil))))) (pss_one (ps_expr (pe_bm PySem.F.plainAttrs_list PySem.F.slot_list_append PySem.F.type_list_append mt_append (pv 1) (pa_cons (pv 6) pa_nil)))))))) (pss_one (ps_ret (pv 1)))))

abbrev s_sums_by : Stmt := top 79
abbrev N_sums_by : List Str := [("rows" : Str), ("shifts" : Str), ("some" : Str), ("row" : Str), ("shift" : Str), ("year" : Str)]
theorem sc_sums_by : FnScope N_sums_by [("rows" : Str), ("shifts" : Str)] (defScope s_sums_by) := ⟨rfl, rfl, rfl, by decide +kernel, rfl, by decide +kernel, by decide +kernel⟩
def t_sums_by (K : PySem.W.Frag) : TS :=
  (tSeq (tAsg (tLc (iZp K (tCons (tVar 0) (tCons (tVar 1) tNil))) (gU K 2 (gCons (gName 3) (gCons (gName 4) gNil))) tYes (tOp (uIx K) (tVar 3) (tVar 4)) [3, 4]) (gName 2)) (tRet (tLc (iRng1 (tCons (tC (.int 60)) tNil)) (gName 5) tYes (tCB (rSum K) (tCons (tLc (iAny K (tVar 2)) (gName 3) tYes (tOp (uIx K) (tVar 3) (tVar 5)) [3]) tNil)) [5])))
theorem ok_sums_by {P : Program} {w : World} {K : PySem.W.Frag} {mg : Str → Option Value} {base : Heap} {sp : Sp} (T : Tx K mg)
    (len : ∀ vs H Q E, sp vs H Q E → vs.length = 2) (hp : ∀ vs H Q E, sp vs H Q E → t_sums_by K { nx := fun _ H' => Q .non H', rt := Q } (L2.start N_sums_by vs) H)
    {f : Addr} {fd : FuncData} (F : Fun K ("sums_by" : Str) ("sums_by" : Str) s_sums_by f fd) : FnOk P w K mg base CX0 1 f fd [("rows" : Str), ("shifts" : Str)] sp := by
  have nd := sc_sums_by.nd
  refine F.ok sc_sums_by len (fun cdv A outer s H vs Q E hr h => ⟨t_sums_by K, ?_, hp vs H Q E h⟩)
  exact (pss_cons (ps_set (i := 2) nd rfl (Or.inr rfl) (pe_lc (own := [(("row" : Str), 3), (("shift" : Str), 4)]) (g := (gU K 2 (gCons (gName 3) (gCons (gName 4) gNil)))) (tt := tYes) rfl nd (pi_zp rfl T.b_zip (pa_cons (pv 0) (pa_cons (pv 1) pa_nil))) (blkOk_by (N := N_sums_by) (sc := defScope s_sums_by) (by decide +kernel)) (fun _ _ _ _ _ => (pg_gU rfl (pgs_cons (pg_name (i := 3) nd rfl (Or.inl rfl)) (pgs_cons (pg_name (i := 4) nd rfl (Or.inl rfl)) pgs_nil)))) (fun _ _ _ _ _ => pts_nil) (fun _ _ _ _ _ => (pe_ix (ix_u hr.units) (pv 3) (pv 4) (fun _ _ => rfl))))) (pss_one (ps_ret (pe_lc (own := [(("year" : Str), 5)]) (g := (gName 5)) (tt := tYes) rfl nd (pi_range1 rfl T.b_range (pa_cons (pe_cst T.c_SIXTY_evening) pa_nil)) (blkOk_by (N := N_sums_by) (sc := defScope s_sums_by) (by decide +kernel)) (fun _ _ _ _ _ => (pg_name (i := 5) nd rfl (Or.inr rfl))) (fun _ _ _ _ _ => pts_nil) (fun _ _ _ _ _ => (pe_callB (cr_sum rfl) rfl T.b_sum (by decide +kernel) (pa_cons (pe_lc (own := [(("row" : Str), 3)]) (g := (gName 3)) (tt := tYes) rfl nd (pi_any (pv 2)) (blkOk_by (by rfl)) (fun _ _ _ _ _ => (pg_name (i := 3) nd rfl (Or.inl rfl))) (fun _ _ _ _ _ => pts_nil) (fun _ _ _ _ _ => (pe_ix (ix_u hr.units) (pv 3) (pv 5) (fun _ _ => rfl)))) pa_nil)))))))

abbrev s_told_evenest : Stmt := top 80
abbrev N_told_evenest : List Str := [("grove" : Str), ("rows" : Str), ("best" : Str), ("shifts" : Str), ("number" : Str)]
theorem sc_told_evenest : FnScope N_told_evenest [("grove" : Str)] (defScope s_told_evenest) := ⟨rfl, rfl, rfl, by decide +kernel, rfl, by decide +kernel, by decide +kernel⟩
def t_told_evenest (K : PySem.W.Frag) (sp_rows_shifted : Sp) (sp_all_shifts : Sp) (sp_sums_by : Sp) : TS :=
  (tSeq (tPar 1 2 (tCons (tCall sp_rows_shifted [] E0 (tCons (tVar 0) tNil)) (tCons (tC .non) tNil))) (tSeq (tFor (iAny K (tCall sp_all_shifts [] E0 (tCons (tVar 0) tNil))) (gName 3) (tSeq (tAsg (tCB (uMin K) (tCons (tCall sp_sums_by [] E0 (tCons (tVar 1) (tCons (tVar 3) tNil))) tNil)) (gName 4)) (tAsg (tIf ((tOr (tTest (tOp (uIs) (tVar 2) (tC .non))) (tTest (tOp (uGt) (tVar 4) (tOp (uIx K) (tVar 2) (tC (.int 0))))))) (tTup (tCons (tVar 4) (tCons (tVar 3) tNil))) (tVar 2)) (gName 2)))) (tRet (tVar 2))))
theorem ok_told_evenest {P : Program} {w : World} {K : PySem.W.Frag} {mg : Str → Option Value} {base : Heap} {sp : Sp} {sp_rows_shifted : Sp} {sp_all_shifts : Sp} {sp_sums_by : Sp} (T : Tx K mg) (D_rows_shifted : Df P w K mg base ("rows_shifted" : Str) 3 [("grove" : Str)] sp_rows_shifted) (D_all_shifts : Df P w K mg base ("all_shifts" : Str) 3 [("grove" : Str)] sp_all_shifts) (D_sums_by : Df P w K mg base ("sums_by" : Str) 1 [("rows" : Str), ("shifts" : Str)] sp_sums_by)
    (len : ∀ vs H Q E, sp vs H Q E → vs.length = 1) (hp : ∀ vs H Q E, sp vs H Q E → t_told_evenest K sp_rows_shifted sp_all_shifts sp_sums_by { nx := fun _ H' => Q .non H', rt := Q } (L2.start N_told_evenest vs) H)
    {f : Addr} {fd : FuncData} (F : Fun K ("told_evenest" : Str) ("told_evenest" : Str) s_told_evenest f fd) : FnOk P w K mg base CX0 4 f fd [("grove" : Str)] sp := by
  have nd := sc_told_evenest.nd
  refine F.ok sc_told_evenest len (fun cdv A outer s H vs Q E hr h => ⟨t_told_evenest K sp_rows_shifted sp_all_shifts sp_sums_by, ?_, hp vs H Q E h⟩)
  exact (pss_cons (ps_par (i := 1) (j := 2) rfl nd rfl rfl (by decide) rfl rfl (pa_cons (pe_callD D_rows_shifted (hr.mono (by decide)) (pa_cons (pv 0) pa_nil)) (pa_cons (pe_non) pa_nil)) (by rfl)) (pss_cons (ps_for PassesOwn.never rfl (pi_any (pe_callD D_all_shifts (hr.mono (by decide)) (pa_cons (pv 0) pa_nil))) (pg_name (i := 3) nd rfl (Or.inl rfl)) (pss_cons (ps_set (i := 4) nd rfl (Or.inl rfl) (pe_callB (cr_uMin rfl) rfl T.b_min (by decide +kernel) (pa_cons (pe_callD D_sums_by (hr.mono (by decide)) (pa_cons (pv 1) (pa_cons (pv 3) pa_nil))) pa_nil))) (pss_one (ps_set (i := 2) nd rfl (Or.inl rfl) (pe_ifExp (PW.pt (pw_or (pt_cmpR op_uIs (pv 2) (pe_non) (nomark _)) (pw_or1 (pt_cmpR op_uGt (pv 4) (pe_ix (ix_u hr.units) (pv 2) (pe_int) (fun _ _ => rfl)) (nomark _))))) (pe_tup (pa_cons (pv 4) (pa_cons (pv 3) pa_nil))) (pv 2)))))) (pss_one (ps_ret (pv 2)))))

abbrev s_evenest : Stmt := top 81
abbrev N_evenest : List Str := [("grove" : Str)]
theorem sc_evenest : FnScope N_evenest [("grove" : Str)] (defScope s_evenest) := ⟨rfl, rfl, rfl, by decide +kernel, rfl, by decide +kernel, by decide +kernel⟩
def t_evenest (K : PySem.W.Frag) (sp_check_shifts_few : Sp) (sp_told_evenest : Sp) : TS :=
  (tSeq (tDrop (tCall sp_check_shifts_few [] E0 (tCons (tVar 0) tNil))) (tRet (tCall sp_told_evenest [] E0 (tCons (tVar 0) tNil))))
theorem ok_evenest {P : Program} {w : World} {K : PySem.W.Frag} {mg : Str → Option Value} {base : Heap} {sp : Sp} {sp_check_shifts_few : Sp} {sp_told_evenest : Sp} (T : Tx K mg) (D_check_shifts_few : Df P w K mg base ("check_shifts_few" : Str) 4 [("grove" : Str)] sp_check_shifts_few) (D_told_evenest : Df P w K mg base ("told_evenest" : Str) 4 [("grove" : Str)] sp_told_evenest)
    (len : ∀ vs H Q E, sp vs H Q E → vs.length = 1) (hp : ∀ vs H Q E, sp vs H Q E → t_evenest K sp_check_shifts_few sp_told_evenest { nx := fun _ H' => Q .non H', rt := Q } (L2.start N_evenest vs) H)
    {f : Addr} {fd : FuncData} (F : Fun K ("evenest" : Str) ("evenest" : Str) s_evenest f fd) : FnOk P w K mg base CX0 5 f fd [("grove" : Str)] sp := by
  have nd := sc_evenest.nd
  refine F.ok sc_evenest len (fun cdv A outer s H vs Q E hr h => ⟨t_evenest K sp_check_shifts_few sp_told_evenest, ?_, hp vs H Q E h⟩)
  exact (pss_cons (ps_expr (pe_callD D_check_shifts_few (hr.mono (by decide)) (pa_cons (pv 0) pa_nil))) (pss_one (ps_ret (pe_callD D_told_evenest (hr.mono (by decide)) (pa_cons (pv 0) pa_nil)))))

abbrev s_check_number : Stmt := top 83
abbrev N_check_number : List Str := [("number" : Str)]
theorem sc_check_number : FnScope N_check_number [("number" : Str)] (defScope s_check_number) := ⟨rfl, rfl, rfl, by decide +kernel, rfl, by decide +kernel, by decide +kernel⟩
def t_check_number (K : PySem.W.Frag) (sp_is_between : Sp) : TS :=
  (tIfS (tNot (tB (tCall sp_is_between [] E0 (tCons (tVar 0) (tCons (tC (.int 0)) (tCons (tC (.int 60)) tNil)))))) (tNever) tNext)
theorem ok_check_number {P : Program} {w : World} {K : PySem.W.Frag} {mg : Str → Option Value} {base : Heap} {sp : Sp} {sp_is_between : Sp} (T : Tx K mg) (D_is_between : Df P w K mg base ("is_between" : Str) 2 [("value" : Str), ("least" : Str), ("most" : Str)] sp_is_between)
    (len : ∀ vs H Q E, sp vs H Q E → vs.length = 1) (hp : ∀ vs H Q E, sp vs H Q E → t_check_number K sp_is_between { nx := fun _ H' => Q .non H', rt := Q } (L2.start N_check_number vs) H)
    {f : Addr} {fd : FuncData} (F : Fun K ("check_number" : Str) ("check_number" : Str) s_check_number f fd) : FnOk P w K mg base CX0 3 f fd [("number" : Str)] sp := by
  have nd := sc_check_number.nd
  refine F.ok sc_check_number len (fun cdv A outer s H vs Q E hr h => ⟨t_check_number K sp_is_between, ?_, hp vs H Q E h⟩)
  exact (pss_one (ps_if (pt_not (pt_val (pe_callD D_is_between (hr.mono (by decide)) (pa_cons (pv 0) (pa_cons (pe_int) (pa_cons (pe_cst T.c_MOST_PLANTS) pa_nil)))))) (pss_one (ps_never)) pss_nil))

abbrev s_even_plants : Stmt := top 84
abbrev N_even_plants : List Str := [("life" : Str), ("many" : Str), ("at" : Str)]
theorem sc_even_plants : FnScope N_even_plants [("life" : Str), ("many" : Str)] (defScope s_even_plants) := ⟨rfl, rfl, rfl, by decide +kernel, rfl, by decide +kernel, by decide +kernel⟩
def t_even_plants (K : PySem.W.Frag) : TS :=
  (tRet (tCB (rTupS K) (tCons (tLc (iRng1 (tCons (tVar 1) tNil)) (gName 2) tYes (tOp (uDiv) (tOp (uMul K) (tVar 2) (tOp (uIx K) (tVar 0) (tC (.int 1)))) (tVar 1)) [2]) tNil)))
theorem ok_even_plants {P : Program} {w : World} {K : PySem.W.Frag} {mg : Str → Option Value} {base : Heap} {sp : Sp} (T : Tx K mg)
    (len : ∀ vs H Q E, sp vs H Q E → vs.length = 2) (hp : ∀ vs H Q E, sp vs H Q E → t_even_plants K { nx := fun _ H' => Q .non H', rt := Q } (L2.start N_even_plants vs) H)
    {f : Addr} {fd : FuncData} (F : Fun K ("even_plants" : Str) ("even_plants" : Str) s_even_plants f fd) : FnOk P w K mg base CX0 1 f fd [("life" : Str), ("many" : Str)] sp := by
  have nd := sc_even_plants.nd
  refine F.ok sc_even_plants len (fun cdv A outer s H vs Q E hr h => ⟨t_even_plants K, ?_, hp vs H Q E h⟩)
  exact (pss_one (ps_ret (pe_callTy cr_uTup rfl T.b_tuple (by decide +kernel) (pa_cons (pe_lc (own := [(("at" : Str), 2)]) (g := (gName 2)) (tt := tYes) rfl nd (pi_range1 rfl T.b_range (pa_cons (pv 1) pa_nil)) (blkOk_by (N := N_even_plants) (sc := defScope s_even_plants) (by decide +kernel)) (fun _ _ _ _ _ => (pg_name (i := 2) nd rfl (Or.inl rfl))) (fun _ _ _ _ _ => pts_nil) (fun _ _ _ _ _ => (pe_op op_uDiv (pe_op op_uMul (pv 2) (pe_ix (ix_u hr.units) (pv 0) (pe_int) (fun _ _ => rfl))) (pv 1)))) pa_nil))))

abbrev s_most_always : Stmt := top 85
abbrev N_most_always : List Str := [("life" : Str), ("many" : Str)]
theorem sc_most_always : FnScope N_most_always [("life" : Str), ("many" : Str)] (defScope s_most_always) := ⟨rfl, rfl, rfl, by decide +kernel, rfl, by decide +kernel, by decide +kernel⟩
def t_most_always (K : PySem.W.Frag) : TS :=
  (tRet (tOp (uDiv) (tOp (uMul K) (tVar 1) (tOp (uSub) (tOp (uIx K) (tVar 0) (tC (.int 1))) (tOp (uIx K) (tVar 0) (tC (.int 0))))) (tOp (uIx K) (tVar 0) (tC (.int 1)))))
theorem ok_most_always {P : Program} {w : World} {K : PySem.W.Frag} {mg : Str → Option Value} {base : Heap} {sp : Sp} (T : Tx K mg)
    (len : ∀ vs H Q E, sp vs H Q E → vs.length = 2) (hp : ∀ vs H Q E, sp vs H Q E → t_most_always K { nx := fun _ H' => Q .non H', rt := Q } (L2.start N_most_always vs) H)
    {f : Addr} {fd : FuncData} (F : Fun K ("most_always" : Str) ("most_always" : Str) s_most_always f fd) : FnOk P w K mg base CX0 1 f fd [("life" : Str), ("many" : Str)] sp := by
  have nd := sc_most_always.nd
  refine F.ok sc_most_always len (fun cdv A outer s H vs Q E hr h => ⟨t_most_always K, ?_, hp vs H Q E h⟩)
  exact (pss_one (ps_ret (pe_op op_uDiv (pe_op op_uMul (pv 1) (pe_op op_uSub (pe_ix (ix_u hr.units) (pv 0) (pe_int) (fun _ _ => rfl)) (pe_ix (ix_u hr.units) (pv 0) (pe_int) (fun _ _ => rfl)))) (pe_ix (ix_u hr.units) (pv 0) (pe_int) (fun _ _ => rfl)))))

abbrev s_best_plants : Stmt := top 86
abbrev N_best_plants : List Str := [("life" : Str), ("many" : Str)]
theorem sc_best_plants : FnScope N_best_plants [("life" : Str), ("many" : Str)] (defScope s_best_plants) := ⟨rfl, rfl, rfl, by decide +kernel, rfl, by decide +kernel, by decide +kernel⟩
def t_best_plants (K : PySem.W.Frag) (sp_check_life : Sp) (sp_check_number : Sp) (sp_even_plants : Sp) (sp_most_always : Sp) : TS :=
  (tSeq (tDrop (tCall sp_check_life [] E0 (tCons (tVar 0) tNil))) (tSeq (tDrop (tCall sp_check_number [] E0 (tCons (tVar 1) tNil))) (tRet (tTup (tCons (tCall sp_most_always [] E0 (tCons (tVar 0) (tCons (tVar 1) tNil))) (tCons (tCall sp_even_plants [] E0 (tCons (tVar 0) (tCons (tVar 1) tNil))) tNil))))))
theorem ok_best_plants {P : Program} {w : World} {K : PySem.W.Frag} {mg : Str → Option Value} {base : Heap} {sp : Sp} {sp_check_life : Sp} {sp_check_number : Sp} {sp_even_plants : Sp} {sp_most_always : Sp} (T : Tx K mg) (D_check_life : Df P w K mg base ("check_life" : Str) 3 [("life" : Str)] sp_check_life) (D_check_number : Df P w K mg base ("check_number" : Str) 3 [("number" : Str)] sp_check_number) (D_even_plants : Df P w K mg base ("even_plants" : Str) 1 [("life" : Str), ("many" : Str)] sp_even_plants) (D_most_always : Df P w K mg base ("most_always" : Str) 1 [("life" : Str), ("many" : Str)] sp_most_always)
    (len : ∀ vs H Q E, sp vs H Q E → vs.length = 2) (hp : ∀ vs H Q E, sp vs H Q E → t_best_plants K sp_check_life sp_check_number sp_even_plants sp_most_always { nx := fun _ H' => Q .non H', rt := Q } (L2.start N_best_plants vs) H)
    {f : Addr} {fd : FuncData} (F : Fun K ("best_plants" : Str) ("best_plants" : Str) s_best_plants f fd) : FnOk P w K mg base CX0 4 f fd [("life" : Str), ("many" : Str)] sp := by
  have nd := sc_best_plants.nd
  refine F.ok sc_best_plants len (fun cdv A outer s H vs Q E hr h => ⟨t_best_plants K sp_check_life sp_check_number sp_even_plants sp_most_always, ?_, hp vs H Q E h⟩)
  exact (pss_cons (ps_expr (pe_callD D_check_life (hr.mono (by decide)) (pa_cons (pv 0) pa_nil))) (pss_cons (ps_expr (pe_callD D_check_number (hr.mono (by decide)) (pa_cons (pv 1) pa_nil))) (pss_one (ps_ret (pe_tup (pa_cons (pe_callD D_most_always (hr.mono (by decide)) (pa_cons (pv 0) (pa_cons (pv 1) pa_nil))) (pa_cons (pe_callD D_even_plants (hr.mono (by decide)) (pa_cons (pv 0) (pa_cons (pv 1) pa_nil))) pa_nil)))))))

abbrev s__law_take : Stmt := top 88
abbrev N__law_take : List Str := [("pot" : Str), ("upto" : Str), ("digit" : Str), ("prime" : Str), ("made" : Str)]
theorem sc__law_take : FnScope N__law_take [("pot" : Str), ("upto" : Str)] (defScope s__law_take) := ⟨rfl, rfl, rfl, by decide +kernel, rfl, by decide +kernel, by decide +kernel⟩
def t__law_take (K : PySem.W.Frag) : TS :=
  (tSeq (tIfS (tTest (tOp (uGt) (tOp (uIx K) (tVar 0) (tC (.int 0))) (tC (.int 0)))) (tSeq (tAsg (tOp (uMod) (tCB (uInt) (tCons (tOp (uIx K) (tVar 0) (tC (.int 0))) tNil)) (tVar 1)) (gName 2)) (tSeq (tAsg (tOp (uDiv) (tOp (uIx K) (tVar 0) (tC (.int 0))) (tVar 1)) (gSub (tVar 0) (tC (.int 0)) uSet)) (tRet (tVar 2)))) tNext) (tSeq (tAsg (tOp (uAdd K) (tOp (uIx K) (tVar 0) (tC (.int 2))) (tC (.int 1))) (gSub (tVar 0) (tC (.int 2)) uSet)) (tSeq (tAsg (tOp (uIx K) (tLst (tCons (tC (.int 2147483647)) (tCons (tC (.int 2147483629)) (tCons (tC (.int 2147483587)) (tCons (tC (.int 2147483579)) (tCons (tC (.int 2147483563)) tNil)))))) (tOp (uMod) (tCB (uInt) (tCons (tOp (uIx K) (tVar 0) (tC (.int 2))) tNil)) (tC (.int 5)))) (gName 3)) (tSeq (tAsg (tOp (uMod) (tCB (uInt) (tCons (tOp (uPow) (tOp (uAdd K) (tOp (uAdd K) (tOp (uIx K) (tVar 0) (tC (.int 1))) (tOp (uMul K) (tOp (uMul K) (tC (.int 97187)) (tOp (uIx K) (tVar 0) (tC (.int 2)))) (tOp (uIx K) (tVar 0) (tC (.int 2))))) (tC (.int 47))) (tC (.int 3))) tNil)) (tVar 3)) (gName 4)) (tSeq (tAsg (tOp (uMod) (tCB (uInt) (tCons (tOp (uMul K) (tVar 4) (tOp (uAdd K) (tOp (uMod) (tCB (uInt) (tCons (tVar 4) tNil)) (tC (.int 10159))) (tOp (uMul K) (tC (.int 101)) (tOp (uIx K) (tVar 0) (tC (.int 2)))))) tNil)) (tC (.int 2305843009213693907))) (gName 4)) (tRet (tOp (uMod) (tCB (uInt) (tCons (tOp (uDiv) (tVar 4) (tC (.int 107))) tNil)) (tVar 1))))))))
theorem ok__law_take {P : Program} {w : World} {K : PySem.W.Frag} {mg : Str → Option Value} {base : Heap} {sp : Sp} (T : Tx K mg)
    (len : ∀ vs H Q E, sp vs H Q E → vs.length = 2) (hp : ∀ vs H Q E, sp vs H Q E → t__law_take K { nx := fun _ H' => Q .non H', rt := Q } (L2.start N__law_take vs) H)
    {f : Addr} {fd : FuncData} (F : Fun K ("_law_take" : Str) ("_law_take" : Str) s__law_take f fd) : FnOk P w K mg base CX0 1 f fd [("pot" : Str), ("upto" : Str)] sp := by
  have nd := sc__law_take.nd
  refine F.ok sc__law_take len (fun cdv A outer s H vs Q E hr h => ⟨t__law_take K, ?_, hp vs H Q E h⟩)
  exact (pss_cons (ps_if (pt_cmpR op_uGt (pe_ix (ix_u hr.units) (pv 0) (pe_int) (fun _ _ => rfl)) (pe_int) (nomark _)) (pss_cons (ps_set (i := 2) nd rfl (Or.inl rfl) (pe_op op_uMod (pe_callTy cr_uInt rfl T.b_int (by decide +kernel) (pa_cons (pe_ix (ix_u hr.units) (pv 0) (pe_int) (fun _ _ => rfl)) pa_nil)) (pv 1))) (pss_cons (ps_asg (pe_op op_uDiv (pe_ix (ix_u hr.units) (pv 0) (pe_int) (fun _ _ => rfl)) (pv 1)) (pg_sub (pv 0) (pe_int) (set_u hr.units))) (pss_one (ps_ret (pv 2))))) pss_nil) (pss_cons (ps_asg (pe_op op_uAdd (pe_ix (ix_u hr.units) (pv 0) (pe_int) (fun _ _ => rfl)) (pe_int)) (pg_sub (pv 0) (pe_int) (set_u hr.units))) (pss_cons (ps_set (i := 3) nd rfl (Or.inl rfl) (pe_ix (ix_u hr.units) (pe_lst (pa_cons (pe_int) (pa_cons (pe_int) (pa_cons (pe_int) (pa_cons (pe_int) (pa_cons (pe_int) pa_nil)))))) (pe_op op_uMod (pe_callTy cr_uInt rfl T.b_int (by decide +kernel) (pa_cons (pe_ix (ix_u hr.units) (pv 0) (pe_int) (fun _ _ => rfl)) pa_nil)) (pe_int)) (fun _ _ => rfl))) (pss_cons (ps_set (i := 4) nd rfl (Or.inl rfl) (pe_op op_uMod (pe_callTy cr_uInt rfl T.b_int (by decide +kernel) (pa_cons (pe_op op_uPow (pe_op op_uAdd (pe_op op_uAdd (pe_ix (ix_u hr.units) (pv 0) (pe_int) (fun _ _ => rfl)) (pe_op op_uMul (pe_op op_uMul (pe_int) (pe_ix (ix_u hr.units) (pv 0) (pe_int) (fun _ _ => rfl))) (pe_ix (ix_u hr.units) (pv 0) (pe_int) (fun _ _ => rfl)))) (pe_int)) (pe_int)) pa_nil)) (pv 3))) (pss_cons (ps_set (i := 4) nd rfl (Or.inl rfl) (pe_op op_uMod (pe_callTy cr_uInt rfl T.b_int (by decide +kernel) (pa_cons (pe_op op_uMul (pv 4) (pe_op op_uAdd (pe_op op_uMod (pe_callTy cr_uInt rfl T.b_int (by decide +kernel) (pa_cons (pv 4) pa_nil)) (pe_int)) (pe_op op_uMul (pe_int) (pe_ix (ix_u hr.units) (pv 0) (pe_int) (fun _ _ => rfl))))) pa_nil)) (pe_int))) (pss_one (ps_ret (pe_op op_uMod (pe_callTy cr_uInt rfl T.b_int (by decide +kernel) (pa_cons (pe_op op_uDiv (pv 4) (pe_int)) pa_nil)) (pv 1)))))))))

abbrev s__law_rows : Stmt := top 89
abbrev N__law_rows : List Str := [("life" : Str), ("plants" : Str), ("found" : Str), ("plant" : Str), ("age" : Str), ("at" : Str), ("year" : Str)]
theorem sc__law_rows : FnScope N__law_rows [("life" : Str), ("plants" : Str)] (defScope s__law_rows) := ⟨rfl, rfl, rfl, by decide +kernel, rfl, by decide +kernel, by decide +kernel⟩
def t__law_rows (K : PySem.W.Frag) : TS :=
  (tSeq (tAsg (tLc (iRng1 (tCons (tOp (uIx K) (tVar 0) (tC (.int 1))) tNil)) (gName 6) tYes (tC (.int 0)) [6]) (gName 2)) (tSeq (tFor (iAny K (tVar 1)) (gName 3) (tFor (iRng2 (tCons (tOp (uIx K) (tVar 0) (tC (.int 0))) (tCons (tOp (uIx K) (tVar 0) (tC (.int 1))) tNil))) (gName 4) (tSeq (tAsg (tOp (uMod) (tOp (uAdd K) (tVar 3) (tVar 4)) (tOp (uIx K) (tVar 0) (tC (.int 1)))) (gName 5)) (tAsg (tOp (uAdd K) (tOp (uIx K) (tVar 2) (tVar 5)) (tC (.int 1))) (gSub (tVar 2) (tVar 5) uSet))))) (tRet (tVar 2))))
theorem ok__law_rows {P : Program} {w : World} {K : PySem.W.Frag} {mg : Str → Option Value} {base : Heap} {sp : Sp} (T : Tx K mg)
    (len : ∀ vs H Q E, sp vs H Q E → vs.length = 2) (hp : ∀ vs H Q E, sp vs H Q E → t__law_rows K { nx := fun _ H' => Q .non H', rt := Q } (L2.start N__law_rows vs) H)
    {f : Addr} {fd : FuncData} (F : Fun K ("_law_rows" : Str) ("_law_rows" : Str) s__law_rows f fd) : FnOk P w K mg base CX0 1 f fd [("life" : Str), ("plants" : Str)] sp := by
  have nd := sc__law_rows.nd
  refine F.ok sc__law_rows len (fun cdv A outer s H vs Q E hr h => ⟨t__law_rows K, ?_, hp vs H Q E h⟩)
  exact (pss_cons (ps_setLc (i := 2) (own := [(("year" : Str), 6)]) (g := (gName 6)) (tt := tYes) rfl nd rfl rfl (sw_true rfl rfl rfl (by decide +kernel)) (pi_range1 rfl T.b_range (pa_cons (pe_ix (ix_u hr.units) (pv 0) (pe_int) (fun _ _ => rfl)) pa_nil)) (blkOk_by (N := N__law_rows) (sc := defScope s__law_rows) (by decide +kernel)) (fun _ _ _ _ _ => (pg_name (i := 6) nd rfl (Or.inl rfl))) (fun _ _ _ _ _ => pts_nil) (fun _ _ _ _ _ => (pe_int))) (pss_cons (ps_for PassesOwn.never rfl (pi_any (pv 1)) (pg_name (i := 3) nd rfl (Or.inl rfl)) (pss_one (ps_for PassesOwn.never rfl (pi_range2 rfl T.b_range (pa_cons (pe_ix (ix_u hr.units) (pv 0) (pe_int) (fun _ _ => rfl)) (pa_cons (pe_ix (ix_u hr.units) (pv 0) (pe_int) (fun _ _ => rfl)) pa_nil))) (pg_name (i := 4) nd rfl (Or.inl rfl)) (pss_cons (ps_set (i := 5) nd rfl (Or.inl rfl) (pe_op op_uMod (pe_op op_uAdd (pv 3) (pv 4)) (pe_ix (ix_u hr.units) (pv 0) (pe_int) (fun _ _ => rfl)))) (pss_one (ps_asg (pe_op op_uAdd (pe_ix (ix_u hr.units) (pv 2) (pv 5) (fun _ _ => rfl)) (pe_int)) (pg_sub (pv 2) (pv 5) (set_u hr.units)))))))) (pss_one (ps_ret (pv 2)))))

abbrev s__law_cells : Stmt := top 90
abbrev N__law_cells : List Str := [("script" : Str), ("upto" : Str)]
theorem sc__law_cells : FnScope N__law_cells [("script" : Str), ("upto" : Str)] (defScope s__law_cells) := ⟨rfl, rfl, rfl, by decide +kernel, rfl, by decide +kernel, by decide +kernel⟩
def t__law_cells (K : PySem.W.Frag) : TS :=
  (tRet (tLstRg (tRg1 (tCB (uMax K) (tCons (tC (.int 1)) (tCons (tCB (uMin K) (tCons (tVar 1) (tCons (tCB (uLen K) (tCons (tVar 0) tNil)) tNil))) tNil))))))
theorem ok__law_cells {P : Program} {w : World} {K : PySem.W.Frag} {mg : Str → Option Value} {base : Heap} {sp : Sp} (T : Tx K mg)
    (len : ∀ vs H Q E, sp vs H Q E → vs.length = 2) (hp : ∀ vs H Q E, sp vs H Q E → t__law_cells K { nx := fun _ H' => Q .non H', rt := Q } (L2.start N__law_cells vs) H)
    {f : Addr} {fd : FuncData} (F : Fun K ("_law_cells" : Str) ("_law_cells" : Str) s__law_cells f fd) : FnOk P w K mg base CX0 1 f fd [("script" : Str), ("upto" : Str)] sp := by
  have nd := sc__law_cells.nd
  refine F.ok sc__law_cells len (fun cdv A outer s H vs Q E hr h => ⟨t__law_cells K, ?_, hp vs H Q E h⟩)
  exact (pss_one (ps_ret (pe_listRg rfl rfl T.b_list (prg_1 rfl T.b_range (pe_callB (cr_uMax rfl) rfl T.b_max (by decide +kernel) (pa_cons (pe_int) (pa_cons (pe_callB (cr_uMin rfl) rfl T.b_min (by decide +kernel) (pa_cons (pv 1) (pa_cons (pe_callB cr_uLen rfl T.b_len (by decide +kernel) (pa_cons (pv 0) pa_nil)) pa_nil))) pa_nil)))))))

abbrev s__law_pot : Stmt := top 91
abbrev N__law_pot : List Str := [("script" : Str), ("place" : Str), ("cell" : Str), ("own" : Str), ("small" : Str)]
theorem sc__law_pot : FnScope N__law_pot [("script" : Str), ("place" : Str)] (defScope s__law_pot) := ⟨rfl, rfl, rfl, by decide +kernel, rfl, by decide +kernel, by decide +kernel⟩
def t__law_pot (K : PySem.W.Frag) : TS :=
  (tSeq (tAsg (tIf (tTest (tOp (uLt) (tVar 1) (tCB (uLen K) (tCons (tVar 0) tNil)))) (tOp (uIx K) (tVar 0) (tVar 1)) (tOp (uAdd K) (tOp (uMul K) (tC (.int 67)) (tVar 1)) (tC (.int 31)))) (gName 2)) (tSeq (tAsg (tOp (uMul K) (tOp (uMod) (tCB (uInt) (tCons (tCB (rAbs) (tCons (tVar 2) tNil)) tNil)) (tOp (uPow) (tOp (uPow) (tC (.int 10)) (tC (.int 60))) (tC (.int 5)))) (tCB (uInt) (tCons (tOp (uGe) (tCB (rAbs) (tCons (tVar 2) tNil)) (tOp (uPow) (tC (.int 10)) (tC (.int 18)))) tNil))) (gName 3)) (tSeq (tAsg (tOp (uMod) (tCB (uInt) (tCons (tVar 2) tNil)) (tC (.int 2305843009213693951))) (gName 4)) (tRet (tLst (tCons (tVar 3) (tCons (tOp (uMod) (tCB (uInt) (tCons (tOp (uAdd K) (tOp (uAdd K) (tOp (uMul K) (tVar 4) (tC (.int 84391))) (tOp (uMul K) (tOp (uMul K) (tC (.int 7369)) (tVar 1)) (tVar 1))) (tC (.int 73))) tNil)) (tC (.int 2305843009213693921))) (tCons (tC (.int 0)) tNil))))))))
theorem ok__law_pot {P : Program} {w : World} {K : PySem.W.Frag} {mg : Str → Option Value} {base : Heap} {sp : Sp} (T : Tx K mg)
    (len : ∀ vs H Q E, sp vs H Q E → vs.length = 2) (hp : ∀ vs H Q E, sp vs H Q E → t__law_pot K { nx := fun _ H' => Q .non H', rt := Q } (L2.start N__law_pot vs) H)
    {f : Addr} {fd : FuncData} (F : Fun K ("_law_pot" : Str) ("_law_pot" : Str) s__law_pot f fd) : FnOk P w K mg base CX0 1 f fd [("script" : Str), ("place" : Str)] sp := by
  have nd := sc__law_pot.nd
  refine F.ok sc__law_pot len (fun cdv A outer s H vs Q E hr h => ⟨t__law_pot K, ?_, hp vs H Q E h⟩)
  exact (pss_cons (ps_set (i := 2) nd rfl (Or.inl rfl) (pe_ifExp (pt_cmpR op_uLt (pv 1) (pe_callB cr_uLen rfl T.b_len (by decide +kernel) (pa_cons (pv 0) pa_nil)) (nomark _)) (pe_ix (ix_u hr.units) (pv 0) (pv 1) (fun _ _ => rfl)) (pe_op op_uAdd (pe_op op_uMul (pe_int) (pv 1)) (pe_int)))) (pss_cons (ps_set (i := 3) nd rfl (Or.inl rfl) (pe_op op_uMul (pe_op op_uMod (pe_callTy cr_uInt rfl T.b_int (by decide +kernel) (pa_cons (pe_callB cr_uAbs rfl T.b_abs (by decide +kernel) (pa_cons (pv 2) pa_nil)) pa_nil)) (pe_op op_uPow (pe_op op_uPow (pe_int) (pe_int)) (pe_int))) (pe_callTy cr_uInt rfl T.b_int (by decide +kernel) (pa_cons (pe_cmpR op_uGe (pe_callB cr_uAbs rfl T.b_abs (by decide +kernel) (pa_cons (pv 2) pa_nil)) (pe_op op_uPow (pe_int) (pe_int)) (nomark _)) pa_nil)))) (pss_cons (ps_set (i := 4) nd rfl (Or.inl rfl) (pe_op op_uMod (pe_callTy cr_uInt rfl T.b_int (by decide +kernel) (pa_cons (pv 2) pa_nil)) (pe_int))) (pss_one (ps_ret (pe_lst (pa_cons (pv 3) (pa_cons (pe_op op_uMod (pe_callTy cr_uInt rfl T.b_int (by decide +kernel) (pa_cons (pe_op op_uAdd (pe_op op_uAdd (pe_op op_uMul (pv 4) (pe_int)) (pe_op op_uMul (pe_op op_uMul (pe_int) (pv 1)) (pv 1))) (pe_int)) pa_nil)) (pe_int)) (pa_cons (pe_int) pa_nil)))))))))

abbrev s__law_right : Stmt := top 92
abbrev N__law_right : List Str := [("pot" : Str), ("long" : Str), ("life" : Str), ("plants" : Str), ("lines" : Str), ("at" : Str), ("plant" : Str), ("signs" : Str), ("grove" : Str), ("rows" : Str), ("year" : Str), ("top" : Str), ("low" : Str), ("names" : Str), ("some" : Str), ("lap" : Str)]
theorem sc__law_right : FnScope N__law_right [("pot" : Str)] (defScope s__law_right) := ⟨rfl, rfl, rfl, by decide +kernel, rfl, by decide +kernel, by decide +kernel⟩
def t__law_right (K : PySem.W.Frag) (C_Grove : Addr) (sp__law_take : Sp) (sp__law_rows : Sp) (sp_Grove___init__ : Sp) (sp_baskets : Sp) (sp_bearing : Sp) (sp_bears : Sp) (sp_least_baskets : Sp) (sp_least_bearing : Sp) (sp_most_baskets : Sp) (sp_most_bearing : Sp) (sp_mean_baskets : Sp) (sp_years_all : Sp) (sp_evenest : Sp) (sp_best_plants : Sp) : TS :=
  (tSeq (tAsg (tCB (uInt) (tCons (tOp (uAdd K) (tC (.int 1)) (tCall sp__law_take [] E0 (tCons (tVar 0) (tCons (tC (.int 6)) tNil)))) tNil)) (gName 1)) (tSeq (tAsg (tTup (tCons (tTup (tCons (tCB (uInt) (tCons (tCall sp__law_take [] E0 (tCons (tVar 0) (tCons (tVar 1) tNil))) tNil)) (tCons (tVar 1) tNil))) (tCons (tLst tNil) tNil))) (gU K 2 (gCons (gName 2) (gCons (gName 3) gNil)))) (tSeq (tAsg (tCB (rTupS K) (tCons (tCB (rSortedI K) (tCons (tLc (iRng1 (tCons (tOp (uAdd K) (tC (.int 1)) (tCall sp__law_take [] E0 (tCons (tVar 0) (tCons (tC (.int 4)) tNil)))) tNil)) (gName 15) tYes (tCB (uInt) (tCons (tCall sp__law_take [] E0 (tCons (tVar 0) (tCons (tVar 1) tNil))) tNil)) [15]) tNil)) tNil)) (gName 3)) (tSeq (tAsg (tLst (tCons (tC (.str ("grove 1 1" : Str))) tNil)) (gName 4)) (tSeq (tFor (iEn K (tCons (tVar 3) tNil)) (gU K 2 (gCons (gName 5) (gCons (gName 6) gNil))) (tSeq (tAsg (tM1 (rJoin K) (tC (.str ("" : Str))) (tLc (iRng1 (tCons (tVar 1) tNil)) (gName 10) tYes (tIf (tTest (tOp (uGe) (tOp (uMod) (tOp (uSub) (tVar 10) (tVar 6)) (tVar 1)) (tOp (uIx K) (tVar 2) (tC (.int 0))))) (tC (.str ("1" : Str))) (tC (.str ("0" : Str)))) [10])) (gName 7)) (tDrop (tBM K "list" (rAppend) (tVar 4) (tCons (tOp (uAdd K) (tOp (uAdd K) (tOp (uAdd K) (tOp (uAdd K) (tC (.str ("palm p" : Str))) (tCB (rStrI) (tCons (tVar 5) tNil))) (tC (.str (" 9 0 5 " : Str)))) (tVar 7)) (tC (.str (" 1" : Str)))) tNil))))) (tSeq (tAsg (tTup (tCons (tMake C_Grove sp_Grove___init__ [] E0 (tCons (tM1 (rJoin K) (tC (.str ("\n" : Str))) (tVar 4)) tNil)) (tCons (tCall sp__law_rows [] E0 (tCons (tVar 2) (tCons (tVar 3) tNil))) tNil))) (gU K 2 (gCons (gName 8) (gCons (gName 9) gNil)))) (tSeq (tFor (iAny K (tTup (tCons (tC (.int 0)) (tCons (tCB (uInt) (tCons (tCall sp__law_take [] E0 (tCons (tVar 0) (tCons (tC (.int 60)) tNil))) tNil)) (tCons (tC (.int 9999)) (tCons (tCB (uInt) (tCons (tCall sp__law_take [] E0 (tCons (tVar 0) (tCons (tC (.int 9999)) tNil))) tNil)) tNil)))))) (gName 10) (tSeq (tIfS ((tOr (tTest (tOp (uNe K) (tCall sp_baskets [] E0 (tCons (tVar 8) (tCons (tVar 10) tNil))) (tOp (uIx K) (tVar 9) (tOp (uMod) (tVar 10) (tVar 1))))) (tTest (tOp (uNe K) (tCall sp_bearing [] E0 (tCons (tVar 2) (tCons (tVar 3) (tCons (tVar 10) tNil)))) (tOp (uIx K) (tVar 9) (tOp (uMod) (tVar 10) (tVar 1))))))) (tRet (tC (.bl false))) tNext) (tFor (iEn K (tCons (tVar 3) tNil)) (gU K 2 (gCons (gName 5) (gCons (gName 6) gNil))) (tIfS (tTest (tOp (uNe K) (tCall sp_bears [] E0 (tCons (tVar 8) (tCons (tOp (uAdd K) (tC (.str ("p" : Str))) (tCB (rStrI) (tCons (tVar 5) tNil))) (tCons (tVar 10) tNil)))) (tOp (uEq K) (tCall sp_bearing [] E0 (tCons (tVar 2) (tCons (tTup (tCons (tVar 6) tNil)) (tCons (tVar 10) tNil)))) (tC (.int 1))))) (tRet (tC (.bl false))) tNext)))) (tSeq (tIfS (tTest (tOp (uNe K) (tCall sp_least_baskets [] E0 (tCons (tVar 8) tNil)) (tTup (tCons (tCB (uMin K) (tCons (tVar 9) tNil)) (tCons (tBM K "list" (rIndex K) (tVar 9) (tCons (tCB (uMin K) (tCons (tVar 9) tNil)) tNil)) tNil))))) (tRet (tC (.bl false))) tNext) (tSeq (tIfS (tTest (tOp (uNe K) (tCall sp_least_bearing [] E0 (tCons (tVar 2) (tCons (tVar 3) tNil))) (tCall sp_least_baskets [] E0 (tCons (tVar 8) tNil)))) (tRet (tC (.bl false))) tNext) (tSeq (tIfS ((tOr (tTest (tOp (uNe K) (tCall sp_most_baskets [] E0 (tCons (tVar 8) tNil)) (tTup (tCons (tCB (uMax K) (tCons (tVar 9) tNil)) (tCons (tBM K "list" (rIndex K) (tVar 9) (tCons (tCB (uMax K) (tCons (tVar 9) tNil)) tNil)) tNil))))) (tTest (tOp (uNe K) (tCall sp_most_bearing [] E0 (tCons (tVar 2) (tCons (tVar 3) tNil))) (tCall sp_most_baskets [] E0 (tCons (tVar 8) tNil)))))) (tRet (tC (.bl false))) tNext) (tSeq (tAsg (tCall sp_mean_baskets [] E0 (tCons (tVar 8) tNil)) (gU K 2 (gCons (gName 11) (gCons (gName 12) gNil)))) (tSeq (tIfS (tTest (tOp (uNe K) (tOp (uMul K) (tVar 11) (tVar 1)) (tOp (uMul K) (tVar 12) (tCB (rSum K) (tCons (tVar 9) tNil))))) (tRet (tC (.bl false))) tNext) (tSeq (tAsg (tCB (rTupS K) (tCons (tLc (iRng1 (tCons (tCB (uLen K) (tCons (tVar 3) tNil)) tNil)) (gName 5) tYes (tOp (uAdd K) (tC (.str ("p" : Str))) (tCB (rStrI) (tCons (tVar 5) tNil))) [5]) tNil)) (gName 13)) (tSeq (tIfS (tTest (tOp (uNe K) (tCall sp_years_all [] E0 (tCons (tVar 8) (tCons (tVar 13) tNil))) (tCB (rTupS K) (tCons (tLc (iRng1 (tCons (tC (.int 60)) tNil)) (gName 10) (tTest (tOp (uEq K) (tOp (uIx K) (tVar 9) (tOp (uMod) (tVar 10) (tVar 1))) (tCB (uLen K) (tCons (tVar 3) tNil)))) (tVar 10) [10]) tNil)))) (tRet (tC (.bl false))) tNext) (tSeq (tAsg (tC (.int 1)) (gName 14)) (tSeq (tFor (iAny K (tVar 3)) (gName 6) (tAsg (tOp (uMul K) (tVar 14) (tVar 1)) (gName 14))) (tSeq (tIfS ((tAnd (tTest (tOp (uLe) (tVar 14) (tC (.int 1000)))) (tTest (tOp (uNe K) (tOp (uIx K) (tCall sp_evenest [] E0 (tCons (tVar 8) tNil)) (tC (.int 0))) (tOp (uIx K) (tCall sp_best_plants [] E0 (tCons (tVar 2) (tCons (tCB (uLen K) (tCons (tVar 3) tNil)) tNil))) (tC (.int 0))))))) (tRet (tC (.bl false))) tNext) (tRet (tOp (uGe) (tOp (uIx K) (tCall sp_best_plants [] E0 (tCons (tVar 2) (tCons (tCB (uLen K) (tCons (tVar 3) tNil)) tNil))) (tC (.int 0))) (tCB (uMin K) (tCons (tVar 9) tNil)))))))))))))))))))))
theorem ok__law_right {P : Program} {w : World} {K : PySem.W.Frag} {mg : Str → Option Value} {base : Heap} {sp : Sp} {C_Grove : Addr} {sp__law_take : Sp} {sp__law_rows : Sp} {sp_Grove___init__ : Sp} {sp_baskets : Sp} {sp_bearing : Sp} {sp_bears : Sp} {sp_least_baskets : Sp} {sp_least_bearing : Sp} {sp_most_baskets : Sp} {sp_most_bearing : Sp} {sp_mean_baskets : Sp} {sp_years_all : Sp} {sp_evenest : Sp} {sp_best_plants : Sp} (T : Tx K mg) (D__law_take : Df P w K mg base ("_law_take" : Str) 1 [("pot" : Str), ("upto" : Str)] sp__law_take) (D__law_rows : Df P w K mg base ("_law_rows" : Str) 1 [("life" : Str), ("plants" : Str)] sp__law_rows) (D_Grove___init__ : Di P w K mg base ("Grove" : Str) C_Grove 6 [("self" : Str), ("text" : Str)] sp_Grove___init__) (D_baskets : Df P w K mg base ("baskets" : Str) 4 [("grove" : Str), ("year" : Str)] sp_baskets) (D_bearing : Df P w K mg base ("bearing" : Str) 5 [("life" : Str), ("plants" : Str), ("year" : Str)] sp_bearing) (D_bears : Df P w K mg base ("bears" : Str) 4 [("grove" : Str), ("palm" : Str), ("year" : Str)] sp_bears) (D_least_baskets : Df P w K mg base ("least_baskets" : Str) 5 [("grove" : Str)] sp_least_baskets) (D_least_bearing : Df P w K mg base ("least_bearing" : Str) 5 [("life" : Str), ("plants" : Str)] sp_least_bearing) (D_most_baskets : Df P w K mg base ("most_baskets" : Str) 5 [("grove" : Str)] sp_most_baskets) (D_most_bearing : Df P w K mg base ("most_bearing" : Str) 5 [("life" : Str), ("plants" : Str)] sp_most_bearing) (D_mean_baskets : Df P w K mg base ("mean_baskets" : Str) 5 [("grove" : Str)] sp_mean_baskets) (D_years_all : Df P w K mg base ("years_all" : Str) 5 [("grove" : Str), ("lot" : Str)] sp_years_all) (D_evenest : Df P w K mg base ("evenest" : Str) 5 [("grove" : Str)] sp_evenest) (D_best_plants : Df P w K mg base ("best_plants" : Str) 4 [("life" : Str), ("many" : Str)] sp_best_plants)
    (len : ∀ vs H Q E, sp vs H Q E → vs.length = 1) (hp : ∀ vs H Q E, sp vs H Q E → t__law_right K C_Grove sp__law_take sp__law_rows sp_Grove___init__ sp_baskets sp_bearing sp_bears sp_least_baskets sp_least_bearing sp_most_baskets sp_most_bearing sp_mean_baskets sp_years_all sp_evenest sp_best_plants { nx := fun _ H' => Q .non H', rt := Q } (L2.start N__law_right vs) H)
    {f : Addr} {fd : FuncData} (F : Fun K ("_law_right" : Str) ("_law_right" : Str) s__law_right f fd) : FnOk P w K mg base CX0 8 f fd [("pot" : Str)] sp := by
  have nd := sc__law_right.nd
  refine F.ok sc__law_right len (fun cdv A outer s H vs Q E hr h => ⟨t__law_right K C_Grove sp__law_take sp__law_rows sp_Grove___init__ sp_baskets sp_bearing sp_bears sp_least_baskets sp_least_bearing sp_most_baskets sp_most_bearing sp_mean_baskets sp_years_all sp_evenest sp_best_plants, ?_, hp vs H Q E h⟩)
  exact (pss_cons (ps_set (i := 1) nd rfl (Or.inr rfl) (pe_callTy cr_uInt rfl T.b_int (by decide +kernel) (pa_cons (pe_op op_uAdd (pe_int) (pe_callD D__law_take (hr.mono (by decide)) (pa_cons (pv 0) (pa_cons (pe_int) pa_nil)))) pa_nil))) (pss_cons (ps_asg (pe_tup (pa_cons (pe_tup (pa_cons (pe_callTy cr_uInt rfl T.b_int (by decide +kernel) (pa_cons (pe_callD D__law_take (hr.mono (by decide)) (pa_cons (pv 0) (pa_cons (pv 1) pa_nil))) pa_nil)) (pa_cons (pv 1) pa_nil))) (pa_cons (pe_lst pa_nil) pa_nil))) (pg_gU rfl (pgs_cons (pg_name (i := 2) nd rfl (Or.inr rfl)) (pgs_cons (pg_name (i := 3) nd rfl (Or.inr rfl)) pgs_nil)))) (pss_cons (ps_set (i := 3) nd rfl (Or.inr rfl) (pe_callTy cr_uTup rfl T.b_tuple (by decide +kernel) (pa_cons (pe_callB cr_sortedI rfl T.b_sorted (by decide +kernel) (pa_cons (pe_lc (own := [(("lap" : Str), 15)]) (g := (gName 15)) (tt := tYes) rfl nd (pi_range1 rfl T.b_range (pa_cons (pe_op op_uAdd (pe_int) (pe_callD D__law_take (hr.mono (by decide)) (pa_cons (pv 0) (pa_cons (pe_int) pa_nil)))) pa_nil)) (blkOk_by (N := N__law_right) (sc := defScope s__law_right) (by decide +kernel)) (fun _ _ _ _ _ => (pg_name (i := 15) nd rfl (Or.inl rfl))) (fun _ _ _ _ _ => pts_nil) (fun _ _ _ _ _ => (pe_callTy cr_uInt rfl T.b_int (by decide +kernel) (pa_cons (pe_callD D__law_take (hr.mono (by decide)) (pa_cons (pv 0) (pa_cons (pv 1) pa_nil))) pa_nil)))) pa_nil)) pa_nil))) (pss_cons (ps_set (i := 4) nd rfl (Or.inl rfl) (pe_lst (pa_cons (pe_str) pa_nil))) (pss_cons (ps_for PassesOwn.never rfl (pi_en rfl T.b_enumerate (pa_cons (pv 3) pa_nil)) (pg_gU rfl (pgs_cons (pg_name (i := 5) nd rfl (Or.inl rfl)) (pgs_cons (pg_name (i := 6) nd rfl (Or.inr rfl)) pgs_nil))) (pss_cons (ps_set (i := 7) nd rfl (Or.inl rfl) (pe_join (pe_str) (pe_lc (own := [(("year" : Str), 10)]) (g := (gName 10)) (tt := tYes) rfl nd (pi_range1 rfl T.b_range (pa_cons (pv 1) pa_nil)) (blkOk_by (N := N__law_right) (sc := defScope s__law_right) (by decide +kernel)) (fun _ _ _ _ _ => (pg_name (i := 10) nd rfl (Or.inl rfl))) (fun _ _ _ _ _ => pts_nil) (fun _ _ _ _ _ => (pe_ifExp (pt_cmpR op_uGe (pe_op op_uMod (pe_op op_uSub (pv 10) (pv 6)) (pv 1)) (pe_ix (ix_u hr.units) (pv 2) (pe_int) (fun _ _ => rfl)) (nomark _)) (pe_str) (pe_str)))))) (pss_one (ps_expr (pe_bm PySem.F.plainAttrs_list PySem.F.slot_list_append PySem.F.type_list_append mt_append (pv 4) (pa_cons (pe_op op_uAdd (pe_op op_uAdd (pe_op op_uAdd (pe_op op_uAdd (pe_str) (pe_callTy cr_uStr rfl T.b_str (by decide +kernel) (pa_cons (pv 5) pa_nil))) (pe_str)) (pv 7)) (pe_str)) pa_nil)))))) (pss_cons (ps_asg (pe_tup (pa_cons (pe_makeD D_Grove___init__ (hr.mono (by decide)) (pa_cons (pe_join (pe_str) (pv 4)) pa_nil)) (pa_cons (pe_callD D__law_rows (hr.mono (by decide)) (pa_cons (pv 2) (pa_cons (pv 3) pa_nil))) pa_nil))) (pg_gU rfl (pgs_cons (pg_name (i := 8) nd rfl (Or.inl rfl)) (pgs_cons (pg_name (i := 9) nd rfl (Or.inr rfl)) pgs_nil)))) (pss_cons (ps_for PassesOwn.never rfl (pi_any (pe_tup (pa_cons (pe_int) (pa_cons (pe_callTy cr_uInt rfl T.b_int (by decide +kernel) (pa_cons (pe_callD D__law_take (hr.mono (by decide)) (pa_cons (pv 0) (pa_cons (pe_int) pa_nil))) pa_nil)) (pa_cons (pe_int) (pa_cons (pe_callTy cr_uInt rfl T.b_int (by decide +kernel) (pa_cons (pe_callD D__law_take (hr.mono (by decide)) (pa_cons (pv 0) (pa_cons (pe_int) pa_nil))) pa_nil)) pa_nil)))))) (pg_name (i := 10) nd rfl (Or.inl rfl)) (pss_cons (ps_if (PW.pt (pw_or (pt_cmpR (op_uNe hr.units) (pe_callD D_baskets (hr.mono (by decide)) (pa_cons (pv 8) (pa_cons (pv 10) pa_nil))) (pe_ix (ix_u hr.units) (pv 9) (pe_op op_uMod (pv 10) (pv 1)) (fun _ _ => rfl)) (nomark _)) (pw_or1 (pt_cmpR (op_uNe hr.units) (pe_callD D_bearing (hr.mono (by decide)) (pa_cons (pv 2) (pa_cons (pv 3) (pa_cons (pv 10) pa_nil)))) (pe_ix (ix_u hr.units) (pv 9) (pe_op op_uMod (pv 10) (pv 1)) (fun _ _ => rfl)) (nomark _))))) (pss_one (ps_ret (pe_bl))) pss_nil) (pss_one (ps_for PassesOwn.never rfl (pi_en rfl T.b_enumerate (pa_cons (pv 3) pa_nil)) (pg_gU rfl (pgs_cons (pg_name (i := 5) nd rfl (Or.inl rfl)) (pgs_cons (pg_name (i := 6) nd rfl (Or.inr rfl)) pgs_nil))) (pss_one (ps_if (pt_cmpR (op_uNe hr.units) (pe_callD D_bears (hr.mono (by decide)) (pa_cons (pv 8) (pa_cons (pe_op op_uAdd (pe_str) (pe_callTy cr_uStr rfl T.b_str (by decide +kernel) (pa_cons (pv 5) pa_nil))) (pa_cons (pv 10) pa_nil)))) (pe_cmpR (op_uEq hr.units) (pe_callD D_bearing (hr.mono (by decide)) (pa_cons (pv 2) (pa_cons (pe_tup (pa_cons (pv 6) pa_nil)) (pa_cons (pv 10) pa_nil)))) (pe_int) (nomark _)) (nomark _)) (pss_one (ps_ret (pe_bl))) pss_nil)))))) (pss_cons (ps_if (pt_cmpR (op_uNe hr.units) (pe_callD D_least_baskets (hr.mono (by decide)) (pa_cons (pv 8) pa_nil)) (pe_tup (pa_cons (pe_callB (cr_uMin rfl) rfl T.b_min (by decide +kernel) (pa_cons (pv 9) pa_nil)) (pa_cons (pe_bm PySem.F.plainAttrs_list PySem.F.slot_list_index PySem.F.type_list_index mt_index (pv 9) (pa_cons (pe_callB (cr_uMin rfl) rfl T.b_min (by decide +kernel) (pa_cons (pv 9) pa_nil)) pa_nil)) pa_nil))) (nomark _)) (pss_one (ps_ret (pe_bl))) pss_nil) (pss_cons (ps_if (pt_cmpR (op_uNe hr.units) (pe_callD D_least_bearing (hr.mono (by decide)) (pa_cons (pv 2) (pa_cons (pv 3) pa_nil))) (pe_callD D_least_baskets (hr.mono (by decide)) (pa_cons (pv 8) pa_nil)) (nomark _)) (pss_one (ps_ret (pe_bl))) pss_nil) (pss_cons (ps_if (PW.pt (pw_or (pt_cmpR (op_uNe hr.units) (pe_callD D_most_baskets (hr.mono (by decide)) (pa_cons (pv 8) pa_nil)) (pe_tup (pa_cons (pe_callB (cr_uMax rfl) rfl T.b_max (by decide +kernel) (pa_cons (pv 9) pa_nil)) (pa_cons (pe_bm PySem.F.plainAttrs_list PySem.F.slot_list_index PySem.F.type_list_index mt_index (pv 9) (pa_cons (pe_callB (cr_uMax rfl) rfl T.b_max (by decide +kernel) (pa_cons (pv 9) pa_nil)) pa_nil)) pa_nil))) (nomark _)) (pw_or1 (pt_cmpR (op_uNe hr.units) (pe_callD D_most_bearing (hr.mono (by decide)) (pa_cons (pv 2) (pa_cons (pv 3) pa_nil))) (pe_callD D_most_baskets (hr.mono (by decide)) (pa_cons (pv 8) pa_nil)) (nomark _))))) (pss_one (ps_ret (pe_bl))) pss_nil) (pss_cons (ps_asg (pe_callD D_mean_baskets (hr.mono (by decide)) (pa_cons (pv 8) pa_nil)) (pg_gU rfl (pgs_cons (pg_name (i := 11) nd rfl (Or.inl rfl)) (pgs_cons (pg_name (i := 12) nd rfl (Or.inl rfl)) pgs_nil)))) (pss_cons (ps_if (pt_cmpR (op_uNe hr.units) (pe_op op_uMul (pv 11) (pv 1)) (pe_op op_uMul (pv 12) (pe_callB (cr_sum rfl) rfl T.b_sum (by decide +kernel) (pa_cons (pv 9) pa_nil))) (nomark _)) (pss_one (ps_ret (pe_bl))) pss_nil) (pss_cons (ps_set (i := 13) nd rfl (Or.inl rfl) (pe_callTy cr_uTup rfl T.b_tuple (by decide +kernel) (pa_cons (pe_lc (own := [(("at" : Str), 5)]) (g := (gName 5)) (tt := tYes) rfl nd (pi_range1 rfl T.b_range (pa_cons (pe_callB cr_uLen rfl T.b_len (by decide +kernel) (pa_cons (pv 3) pa_nil)) pa_nil)) (blkOk_by (N := N__law_right) (sc := defScope s__law_right) (by decide +kernel)) (fun _ _ _ _ _ => (pg_name (i := 5) nd rfl (Or.inl rfl))) (fun _ _ _ _ _ => pts_nil) (fun _ _ _ _ _ => (pe_op op_uAdd (pe_str) (pe_callTy cr_uStr rfl T.b_str (by decide +kernel) (pa_cons (pv 5) pa_nil))))) pa_nil))) (pss_cons (ps_if (pt_cmpR (op_uNe hr.units) (pe_callD D_years_all (hr.mono (by decide)) (pa_cons (pv 8) (pa_cons (pv 13) pa_nil))) (pe_callTy cr_uTup rfl T.b_tuple (by decide +kernel) (pa_cons (pe_lc (own := [(("year" : Str), 10)]) (g := (gName 10)) (tt := (tTest (tOp (uEq K) (tOp (uIx K) (tVar 9) (tOp (uMod) (tVar 10) (tVar 1))) (tCB (uLen K) (tCons (tVar 3) tNil))))) rfl nd (pi_range1 rfl T.b_range (pa_cons (pe_int) pa_nil)) (blkOk_by (N := N__law_right) (sc := defScope s__law_right) (by decide +kernel)) (fun _ _ _ _ _ => (pg_name (i := 10) nd rfl (Or.inl rfl))) (fun _ _ _ _ _ => (pts_one (pt_cmpR (op_uEq hr.units) (pe_ix (ix_u hr.units) (pv 9) (pe_op op_uMod (pv 10) (pv 1)) (fun _ _ => rfl)) (pe_callB cr_uLen rfl T.b_len (by decide +kernel) (pa_cons (pv 3) pa_nil)) (nomark _)))) (fun _ _ _ _ _ => (pv 10))) pa_nil)) (nomark _)) (pss_one (ps_ret (pe_bl))) pss_nil) (pss_cons (ps_set (i := 14) nd rfl (Or.inl rfl) (pe_int)) (pss_cons (ps_for PassesOwn.never rfl (pi_any (pv 3)) (pg_name (i := 6) nd rfl (Or.inr rfl)) (pss_one (ps_set (i := 14) nd rfl (Or.inl rfl) (pe_op op_uMul (pv 14) (pv 1))))) (pss_cons (ps_if (PW.pt (pw_and (pt_cmpR op_uLe (pv 14) (pe_int) (nomark _)) (pw_and1 (pt_cmpR (op_uNe hr.units) (pe_ix (ix_u hr.units) (pe_callD D_evenest (hr.mono (by decide)) (pa_cons (pv 8) pa_nil)) (pe_int) (fun _ _ => rfl)) (pe_ix (ix_u hr.units) (pe_callD D_best_plants (hr.mono (by decide)) (pa_cons (pv 2) (pa_cons (pe_callB cr_uLen rfl T.b_len (by decide +kernel) (pa_cons (pv 3) pa_nil)) pa_nil))) (pe_int) (fun _ _ => rfl)) (nomark _))))) (pss_one (ps_ret (pe_bl))) pss_nil) (pss_one (ps_ret (pe_cmpR op_uGe (pe_ix (ix_u hr.units) (pe_callD D_best_plants (hr.mono (by decide)) (pa_cons (pv 2) (pa_cons (pe_callB cr_uLen rfl T.b_len (by decide +kernel) (pa_cons (pv 3) pa_nil)) pa_nil))) (pe_int) (fun _ _ => rfl)) (pe_callB (cr_uMin rfl) rfl T.b_min (by decide +kernel) (pa_cons (pv 9) pa_nil)) (nomark _)))))))))))))))))))))

abbrev s_law : Stmt := top 93
abbrev N_law : List Str := [("script" : Str), ("place" : Str), ("pot" : Str), ("lap" : Str)]
theorem sc_law : FnScope N_law [("script" : Str)] (defScope s_law) := ⟨rfl, rfl, rfl, by decide +kernel, rfl, by decide +kernel, by decide +kernel⟩
def t_law (K : PySem.W.Frag) (sp__law_cells : Sp) (sp__law_pot : Sp) (sp__law_right : Sp) : TS :=
  (tSeq (tFor (iAny K (tCall sp__law_cells [] E0 (tCons (tVar 0) (tCons (tC (.int 2)) tNil)))) (gName 1) (tSeq (tAsg (tCall sp__law_pot [] E0 (tCons (tVar 0) (tCons (tVar 1) tNil))) (gName 2)) (tIfS (tNot (tB (tCB (rAll K) (tCons (tLc (iRng1 (tCons (tC (.int 6)) tNil)) (gName 3) tYes (tCall sp__law_right [] E0 (tCons (tVar 2) tNil)) [3]) tNil)))) (tRet (tC (.bl false))) tNext))) (tRet (tC (.bl true))))
theorem ok_law {P : Program} {w : World} {K : PySem.W.Frag} {mg : Str → Option Value} {base : Heap} {sp : Sp} {sp__law_cells : Sp} {sp__law_pot : Sp} {sp__law_right : Sp} (T : Tx K mg) (D__law_cells : Df P w K mg base ("_law_cells" : Str) 1 [("script" : Str), ("upto" : Str)] sp__law_cells) (D__law_pot : Df P w K mg base ("_law_pot" : Str) 1 [("script" : Str), ("place" : Str)] sp__law_pot) (D__law_right : Df P w K mg base ("_law_right" : Str) 8 [("pot" : Str)] sp__law_right)
    (len : ∀ vs H Q E, sp vs H Q E → vs.length = 1) (hp : ∀ vs H Q E, sp vs H Q E → t_law K sp__law_cells sp__law_pot sp__law_right { nx := fun _ H' => Q .non H', rt := Q } (L2.start N_law vs) H)
    {f : Addr} {fd : FuncData} (F : Fun K ("law" : Str) ("law" : Str) s_law f fd) : FnOk P w K mg base CX0 9 f fd [("script" : Str)] sp := by
  have nd := sc_law.nd
  refine F.ok sc_law len (fun cdv A outer s H vs Q E hr h => ⟨t_law K sp__law_cells sp__law_pot sp__law_right, ?_, hp vs H Q E h⟩)
  exact (pss_cons (ps_for PassesOwn.never rfl (pi_any (pe_callD D__law_cells (hr.mono (by decide)) (pa_cons (pv 0) (pa_cons (pe_int) pa_nil)))) (pg_name (i := 1) nd rfl (Or.inl rfl)) (pss_cons (ps_set (i := 2) nd rfl (Or.inr rfl) (pe_callD D__law_pot (hr.mono (by decide)) (pa_cons (pv 0) (pa_cons (pv 1) pa_nil)))) (pss_one (ps_if (pt_not (pt_val (pe_callB (cr_all rfl) rfl T.b_all (by decide +kernel) (pa_cons (pe_lc (own := [(("lap" : Str), 3)]) (g := (gName 3)) (tt := tYes) rfl nd (pi_range1 rfl T.b_range (pa_cons (pe_int) pa_nil)) (blkOk_by (N := N_law) (sc := defScope s_law) (by decide +kernel)) (fun _ _ _ _ _ => (pg_name (i := 3) nd rfl (Or.inl rfl))) (fun _ _ _ _ _ => pts_nil) (fun _ _ _ _ _ => (pe_callD D__law_right (hr.mono (by decide)) (pa_cons (pv 2) pa_nil)))) pa_nil)))) (pss_one (ps_ret (pe_bl))) pss_nil)))) (pss_one (ps_ret (pe_bl))))
end K83

set_option Elab.async false
set_option linter.all false
set_option maxRecDepth 100000
set_option maxHeartbeats 4000000
set_option autoImplicit false
namespace K83
open PySem L2 Dl StX
variable {K : PySem.W.Frag}
local macro_rules | `(tactic| walk_at "side") => `(tactic| focus (first | assumption | rfl | exact Nat.le_of_ble_eq_true rfl | omega | decide | (simp; done) | (simp; omega)))
local macro_rules | `(tactic| walk_at "ix") => `(tactic| first | rfl | assumption | exact atI_nat (by focus (first | rfl | assumption | (simp; done))))
local macro_rules | `(tactic| walk_at "log") => `(tactic| first | assumption | exact mul_sm (by unfold Sm; omega) (by unfold Sm; omega) | exact log_sm2 (by unfold Sm; omega) | exact log_sm (by unfold Sm; omega) | decide)
local macro_rules | `(tactic| walk_at "R") => `(tactic| fail "no R")
local macro_rules | `(tactic| walk_at "r2") => `(tactic| first
  | exact d_add | exact d_sub | exact d_lt | exact d_le | exact d_gt | exact d_ge | exact d_eqI | exact d_neI | exact d_eqS | exact d_neS | exact d_eqB | exact d_neB
  | exact d_isN | exact d_ntN | exact d_isB | exact d_ntB
  | (apply d_mod; walk_at "side") | (apply d_div; walk_at "side"; walk_at "log") | (apply d_mul; walk_at "log") | (apply d_pow; walk_at "side"; walk_at "log")
  | exact d_inS | exact d_niS | exact d_inST | exact d_niST | exact d_inG | exact d_niG
  | (apply d_ixL; walk_at "ix") | (apply d_ixT; walk_at "ix") | (apply d_ixR; walk_at "ix") | (apply d_ixS; walk_at "side"; walk_at "ix") | (apply d_ixDs; walk_at "ix")
  | (apply d_inD; walk_at "side") | (apply d_niD; walk_at "side")
  | (apply d_addS; walk_at "side") | (apply d_addL; walk_at "side") | (apply d_addT; walk_at "side"))
local macro_rules | `(tactic| walk_at "ra") => `(tactic| first
  | exact d_lenL | exact d_lenT | (apply d_lenS; walk_at "side") | exact d_lenR | exact d_lenD | exact d_sum | exact d_all | exact d_any
  | (apply d_max; walk_at "side") | (apply d_min; walk_at "side") | exact d_max2 | exact d_min2 | exact d_abs | exact d_int | exact d_intB
  | (apply d_intS; walk_at "side"; walk_at "side") | (apply d_str; walk_at "log") | exact d_listL | exact d_listT | exact d_listD | exact d_tupL | exact d_sorted
  | exact d_isiTy (b := true) rfl (by decide +kernel) | exact d_isiTy (b := false) rfl (by decide +kernel))
local macro_rules | `(tactic| walk_at "gs") => `(tactic| first
  | exact gs_nil | (apply gs_cons; walk_at "gd"; walk_at "gs"))
local macro_rules | `(tactic| walk_at "gd") => `(tactic| first
  | exact gd_name (by decide) | (apply gd_tupU; walk_at "gs"; rfl) | (apply gd_lstU; walk_at "gs"; rfl))
local macro_rules | `(tactic| walk_at "ea") => `(tactic| first
  | exact ea_nil | (apply ea_cons; walk_at "ev"; walk_at "ea") | (apply ea_starT; walk_at "ev"; walk_at "ea") | (apply ea_starL; walk_at "ev"; walk_at "ea"))
local macro_rules | `(tactic| walk_at "eo") => `(tactic| first
  | exact eo_none | (apply eo_some; walk_at "ev"))
local macro_rules | `(tactic| walk_at "it") => `(tactic| first
  | (apply it_r1; walk_at "ea"; walk_at "side"; walk_at "side")
  | (apply it_r2; walk_at "ea"; walk_at "side"; walk_at "side"; walk_at "side"; walk_at "side")
  | (apply it_en; walk_at "ea"; first | exact Or.inl rfl | exact Or.inr rfl)
  | (apply it_zp; walk_at "ea"; (first | exact Or.inl rfl | exact Or.inr rfl); (first | exact Or.inl rfl | exact Or.inr rfl))
  | (apply it_anyL; walk_at "ev") | (apply it_anyT; walk_at "ev") | (apply it_anyS; walk_at "ev"))
local macro_rules | `(tactic| walk_at "hds") => `(tactic| first | rfl | exact (List.map_id _).symm)
local macro_rules | `(tactic| walk_at "turn1") => `(tactic| (intro a ha; apply ex2; walk_at "gd"; walk_at "ev"))
local macro_rules | `(tactic| walk_at "turn2") => `(tactic| (intro a ha; apply ex3; walk_at "gd"; walk_at "et"; (intro hb; walk_at "ev")))
local macro_rules | `(tactic| walk_at "lc") => `(tactic| first
  | (apply en_lc1I; walk_at "it"; walk_at "hds"; exact trivial; walk_at "side"; walk_at "turn1")
  | (apply en_lc1B; walk_at "it"; walk_at "hds"; exact trivial; walk_at "side"; walk_at "turn1")
  | (apply en_lc1S; walk_at "it"; walk_at "hds"; exact trivial; walk_at "side"; walk_at "turn1")
  | (apply en_lc1; walk_at "it"; walk_at "hds"; exact trivial; walk_at "side"; walk_at "turn1")
  | (apply en_lcI; walk_at "it"; walk_at "hds"; exact trivial; walk_at "side"; walk_at "turn2")
  | (apply en_lcS; walk_at "it"; walk_at "hds"; exact trivial; walk_at "side"; walk_at "turn2")
  | (apply en_lc; walk_at "it"; walk_at "hds"; exact trivial; walk_at "side"; walk_at "turn2"))
local macro_rules | `(tactic| walk_at "ev") => `(tactic| first
  | exact ev_int | exact ev_str | exact ev_bl | exact ev_non | exact ev_ty | exact ev_adr | exact ev_var rfl
  | (apply ev_op; walk_at "ev"; walk_at "ev"; walk_at "r2")
  | (apply ev_ixW; rfl; walk_at "ev"; rfl; walk_at "ix")
  | (apply ev_un; walk_at "ev"; exact d_uNeg)
  | (apply ev_cb; walk_at "ea"; walk_at "ra")
  | (apply ev_tup; walk_at "ea"; walk_at "side")
  | (apply ev_call; walk_at "ea"; walk_at "R")
  | (apply ev_meth; walk_at "ev"; decide; walk_at "ea"; walk_at "R")
  | (apply ev_prop; walk_at "ev"; walk_at "R")
  | (apply ev_fz; walk_at "lc")
  | (apply ev_lst; walk_at "ea"; walk_at "side")
  | (apply ev_andV; walk_at "ev"; (intro h1; walk_at "ev"))
  | (apply ev_orV; walk_at "ev"; (intro h1; walk_at "ev"))
  | (apply ev_notV; walk_at "ev")
  | (apply ev_chain; walk_at "ev"; walk_at "ev"; walk_at "r2"; (intro h1; apply And.intro; walk_at "ev"; walk_at "r2"))
  | (apply ev_slL; walk_at "ev"; walk_at "eo"; walk_at "eo")
  | (apply ev_slT; walk_at "ev"; walk_at "eo"; walk_at "eo")
  | (apply ev_slS; walk_at "ev"; walk_at "eo"; walk_at "eo"; walk_at "side")
  | (apply ev_indexI; walk_at "ev"; walk_at "ev"; walk_at "side"))
local macro_rules | `(tactic| walk_at "et") => `(tactic| first
  | (apply et_test; walk_at "ev") | (apply et_B; walk_at "ev") | (apply et_not; walk_at "et")
  | (apply et_and; walk_at "et"; (intro h1; walk_at "et")) | (apply et_or; walk_at "et"; (intro h1; walk_at "et")) | exact et_yes)
local macro_rules | `(tactic| walk_at "nrm") => `(tactic| (try simp only [List.set_cons_succ, List.set_cons_zero]))
local macro_rules | `(tactic| walk_at "asg") => `(tactic| (apply q_asg; walk_at "ev"; walk_at "nrm"))
local macro_rules | `(tactic| walk_at "drop") => `(tactic| (apply q_drop; walk_at "ev"))
local macro_rules | `(tactic| walk_at "tup") => `(tactic| (apply q_tupU; walk_at "ev"; walk_at "gs"; rfl; walk_at "nrm"))
local macro_rules | `(tactic| walk_at "ret") => `(tactic| (apply st_ret; walk_at "ev"))
local macro_rules | `(tactic| walk_at "bf") => `(tactic| focus (first | rfl | (simp; done) | (simp; omega) | (simp [*]; done) | (simp [*]; omega)))
local macro_rules | `(tactic| walk_at "no") => `(tactic| (apply q_no; walk_at "et"; walk_at "bf"))
local macro_rules | `(tactic| walk_at "chk") => `(tactic| (apply st_chk; walk_at "et"; walk_at "bf"; rfl))
local macro_rules | `(tactic| walk_at "unl") => `(tactic| (apply q_lstU; walk_at "ev"; walk_at "gs"; rfl; walk_at "nrm"))

def R_is_integer (ds : List D) (d : D) : Prop := ∃ i : Int, ds = [.int i] ∧ d = .bl true
theorem r_is_integer {i : Int} : R_is_integer [.int i] (.bl true) := ⟨i, rfl, rfl⟩
theorem p_is_integer : ∀ ds d, R_is_integer ds d → St K (t_is_integer K) (ds.map Slot.val ++ List.replicate (N_is_integer.length - ds.length) .no) (Ret d) := by
  rintro _ _ ⟨i, rfl, rfl⟩
  show St K _ [.val (.int i)] _
  apply st_ret
  walk_at "ev"
  rfl
local macro_rules | `(tactic| walk_at "R") => `(tactic| exact r_is_integer)

def R_is_between (ds : List D) (d : D) : Prop := ∃ i lo hi : Int, ds = [.int i, .int lo, .int hi] ∧ d = .bl (decide (lo ≤ i) && decide (i ≤ hi))
theorem r_is_between {i lo hi : Int} : R_is_between [.int i, .int lo, .int hi] (.bl (decide (lo ≤ i) && decide (i ≤ hi))) := ⟨i, lo, hi, rfl, rfl⟩
theorem p_is_between : ∀ ds d, R_is_between ds d → St K (t_is_between K (spD K R_is_integer)) (ds.map Slot.val ++ List.replicate (N_is_between.length - ds.length) .no) (Ret d) := by
  rintro _ _ ⟨i, lo, hi, rfl, rfl⟩
  show St K _ [.val (.int i), .val (.int lo), .val (.int hi)] _
  apply st_ret
  walk_at "ev"
  rfl
local macro_rules | `(tactic| walk_at "R") => `(tactic| exact r_is_between)

def R_is_day (ds : List D) (d : D) : Prop := ∃ i : Int, ds = [.int i] ∧ d = .bl (decide (0 ≤ i) && decide (i ≤ 999))
theorem r_is_day {i : Int} : R_is_day [.int i] (.bl (decide (0 ≤ i) && decide (i ≤ 999))) := ⟨i, rfl, rfl⟩
theorem p_is_day : ∀ ds d, R_is_day ds d → St K (t_is_day K (spD K R_is_between)) (ds.map Slot.val ++ List.replicate (N_is_day.length - ds.length) .no) (Ret d) := by
  rintro _ _ ⟨i, rfl, rfl⟩
  show St K _ [.val (.int i)] _
  walk_at "ret"
  rfl
local macro_rules | `(tactic| walk_at "R") => `(tactic| exact r_is_day)

def R_check_year (ds : List D) (d : D) : Prop := ∃ i : Int, (0 ≤ i ∧ i ≤ 9999) ∧ ds = [.int i] ∧ d = .non
theorem r_check_year {i : Int} (h : 0 ≤ i ∧ i ≤ 9999) : R_check_year [.int i] .non := ⟨i, h, rfl, rfl⟩
theorem p_check_year : ∀ ds d, R_check_year ds d → St K (t_check_year K (spD K R_is_between)) (ds.map Slot.val ++ List.replicate (N_check_year.length - ds.length) .no) (Ret d) := by
  rintro _ _ ⟨i, ⟨h1, h2⟩, rfl, rfl⟩
  show St K _ [.val (.int i)] _
  walk_at "chk"
local macro_rules | `(tactic| walk_at "R") => `(tactic| exact r_check_year (by walk_at "side"))

def R_check_number (ds : List D) (d : D) : Prop := ∃ i : Int, (0 ≤ i ∧ i ≤ 60) ∧ ds = [.int i] ∧ d = .non
theorem r_check_number {i : Int} (h : 0 ≤ i ∧ i ≤ 60) : R_check_number [.int i] .non := ⟨i, h, rfl, rfl⟩
theorem p_check_number : ∀ ds d, R_check_number ds d → St K (t_check_number K (spD K R_is_between)) (ds.map Slot.val ++ List.replicate (N_check_number.length - ds.length) .no) (Ret d) := by
  rintro _ _ ⟨i, ⟨h1, h2⟩, rfl, rfl⟩
  show St K _ [.val (.int i)] _
  walk_at "chk"
local macro_rules | `(tactic| walk_at "R") => `(tactic| exact r_check_number (by walk_at "side"))

/-- a LIFE -/
def Life (y l : Int) : Prop := 0 ≤ y ∧ y < l ∧ l ≤ 60
def R_check_life (ds : List D) (d : D) : Prop := ∃ y l : Int, Life y l ∧ ds = [.tup [.int y, .int l]] ∧ d = .non
theorem r_check_life {y l : Int} (h : Life y l) : R_check_life [.tup [.int y, .int l]] .non := ⟨y, l, h, rfl, rfl⟩
theorem p_check_life : ∀ ds d, R_check_life ds d → St K (t_check_life K (spD K R_is_between)) (ds.map Slot.val ++ List.replicate (N_check_life.length - ds.length) .no) (Ret d) := by
  rintro _ _ ⟨y, l, ⟨h1, h2, h3⟩, rfl, rfl⟩
  show St K _ [.val (.tup [.int y, .int l])] _
  walk_at "no"
  walk_at "chk"
local macro_rules | `(tactic| walk_at "R") => `(tactic| exact r_check_life (by walk_at "side"))

/-- PLANTS -/
def Plants (l : Int) (ps : List Int) : Prop := ps.length ≤ 60 ∧ (∀ p ∈ ps, 0 ≤ p ∧ p < l) ∧ ps.Pairwise (· ≤ ·)
theorem sorted_zip : ∀ {ps : List Int}, ps.Pairwise (· ≤ ·) → ∀ q ∈ ps.zip ps.tail, q.1 ≤ q.2
  | [], _, q, h => by simp at h
  | [a], _, q, h => by simp at h
  | a :: b :: r, hp, q, h => by
    rw [List.pairwise_cons] at hp
    have h : q = (a, b) ∨ q ∈ (b :: r).zip r := by simpa using h
    rcases h with rfl | h
    · exact hp.1 b (by simp)
    · exact sorted_zip hp.2 q h
theorem cut_tail {ds : List D} : cutD ds (some 1) none = ds.tail := by
  unfold Dl.cutD HT.sIx
  cases ds with
  | nil => rfl
  | cons d ds => simp
def R_are_plants_of (ds : List D) (d : D) : Prop := ∃ (y l : Int) (ps : List Int), Life y l ∧ Plants l ps ∧ ds = [.tup [.int y, .int l], .tup (ps.map .int)] ∧ d = .bl true
theorem r_are_plants_of {y l : Int} {ps : List Int} (h : Life y l) (h2 : Plants l ps) : R_are_plants_of [.tup [.int y, .int l], .tup (ps.map .int)] (.bl true) := ⟨y, l, ps, h, h2, rfl, rfl⟩
theorem zip_map_tail {ps : List Int} : ((ps.map D.int).zip (cutD (ps.map D.int) (some 1) none)).map (fun p => D.tup [p.1, p.2]) = (ps.zip ps.tail).map fun p => D.tup [.int p.1, .int p.2] := by
  rw [cut_tail, ← List.map_tail, List.zip_map, List.map_map]
  rfl
theorem p_are_plants_of : ∀ ds d, R_are_plants_of ds d → St K (t_are_plants_of K (spD K R_is_between)) (ds.map Slot.val ++ List.replicate (N_are_plants_of.length - ds.length) .no) (Ret d) := by
  rintro _ _ ⟨y, l, ps, ⟨h1, h2, h3⟩, ⟨g1, g2, g3⟩, rfl, rfl⟩
  show St K _ [.val (.tup [.int y, .int l]), .val (.tup (ps.map .int)), .no, .no, .no] _
  walk_at "no"
  apply q_no
  walk_at "et"
  · simp only [Bool.not_eq_false', List.all_map, List.all_eq_true]
    intro p hp
    have := g2 p hp
    simp
    omega
  apply st_ret
  apply ev_cb
  apply ea_cons
  apply ev_fz
  · apply en_lc1B
    walk_at "it"
    exact zip_map_tail
    trivial
    · simp; omega
    walk_at "turn1"
  exact ea_nil
  exact d_all
  · show D.bl _ = D.bl true
    congr 1
    simp only [List.all_map, List.all_eq_true]
    intro q hq
    have := sorted_zip g3 q hq
    simpa using this
local macro_rules | `(tactic| walk_at "R") => `(tactic| exact r_are_plants_of (by walk_at "side") (by walk_at "side"))

def R_check_plants (ds : List D) (d : D) : Prop := ∃ (y l : Int) (ps : List Int), Life y l ∧ Plants l ps ∧ ds = [.tup [.int y, .int l], .tup (ps.map .int)] ∧ d = .non
theorem r_check_plants {y l : Int} {ps : List Int} (h : Life y l) (h2 : Plants l ps) : R_check_plants [.tup [.int y, .int l], .tup (ps.map .int)] .non := ⟨y, l, ps, h, h2, rfl, rfl⟩
theorem p_check_plants : ∀ ds d, R_check_plants ds d → St K (t_check_plants K (spD K R_check_life) (spD K R_are_plants_of)) (ds.map Slot.val ++ List.replicate (N_check_plants.length - ds.length) .no) (Ret d) := by
  rintro _ _ ⟨y, l, ps, h, g, rfl, rfl⟩
  show St K _ [.val (.tup [.int y, .int l]), .val (.tup (ps.map .int))] _
  walk_at "drop"
  walk_at "chk"
local macro_rules | `(tactic| walk_at "R") => `(tactic| exact r_check_plants (by walk_at "side") (by walk_at "side"))

/-- how many bear -/
def bearB (y l : Int) (ps : List Int) (t : Int) : Int := ((ps.filter fun p => decide (y ≤ (t - p) % l)).length : Nat)
def R_bearing_by (ds : List D) (d : D) : Prop := ∃ (y l : Int) (ps : List Int) (t : Int), 0 < l ∧ ps.length ≤ 60 ∧ ds = [.tup [.int y, .int l], .tup (ps.map .int), .int t] ∧ d = .int (bearB y l ps t)
theorem r_bearing_by {y l : Int} {ps : List Int} {t : Int} (h : 0 < l) (h2 : ps.length ≤ 60) : R_bearing_by [.tup [.int y, .int l], .tup (ps.map .int), .int t] (.int (bearB y l ps t)) := ⟨y, l, ps, t, h, h2, rfl, rfl⟩
theorem p_bearing_by : ∀ ds d, R_bearing_by ds d → St K (t_bearing_by K) (ds.map Slot.val ++ List.replicate (N_bearing_by.length - ds.length) .no) (Ret d) := by
  rintro _ _ ⟨y, l, ps, t, h, h2, rfl, rfl⟩
  show St K _ [.val (.tup [.int y, .int l]), .val (.tup (ps.map .int)), .val (.int t), .no, .no, .no] _
  walk_at "tup"
  walk_at "ret"
  show D.int _ = D.int _
  simp [bearB]
local macro_rules | `(tactic| walk_at "R") => `(tactic| exact r_bearing_by (by walk_at "side") (by walk_at "side"))
end K83

set_option Elab.async false
set_option linter.all false
set_option maxRecDepth 100000
set_option maxHeartbeats 4000000
set_option autoImplicit false
namespace K83
open PySem L2 Dl StX
variable {K : PySem.W.Frag}
local macro_rules | `(tactic| walk_at "side") => `(tactic| focus (first | assumption | rfl | exact Nat.le_of_ble_eq_true rfl | omega | decide | (simp; done) | (simp; omega)))
local macro_rules | `(tactic| walk_at "ix") => `(tactic| first | rfl | assumption | exact atI_nat (by focus (first | rfl | assumption | (simp; done))))
local macro_rules | `(tactic| walk_at "log") => `(tactic| first | assumption | exact mul_sm (by unfold Sm; omega) (by unfold Sm; omega) | exact log_sm2 (by unfold Sm; omega) | exact log_sm (by unfold Sm; omega) | decide)
local macro_rules | `(tactic| walk_at "R") => `(tactic| fail "no R")
local macro_rules | `(tactic| walk_at "r2") => `(tactic| first
  | exact d_add | exact d_sub | exact d_lt | exact d_le | exact d_gt | exact d_ge | exact d_eqI | exact d_neI | exact d_eqS | exact d_neS | exact d_eqB | exact d_neB
  | exact d_isN | exact d_ntN | exact d_isB | exact d_ntB
  | (apply d_mod; walk_at "side") | (apply d_div; walk_at "side"; walk_at "log") | (apply d_mul; walk_at "log") | (apply d_pow; walk_at "side"; walk_at "log")
  | exact d_inS | exact d_niS | exact d_inST | exact d_niST | exact d_inG | exact d_niG
  | (apply d_ixL; walk_at "ix") | (apply d_ixT; walk_at "ix") | (apply d_ixR; walk_at "ix") | (apply d_ixS; walk_at "side"; walk_at "ix") | (apply d_ixDs; walk_at "ix")
  | (apply d_inD; walk_at "side") | (apply d_niD; walk_at "side")
  | (apply d_addS; walk_at "side") | (apply d_addL; walk_at "side") | (apply d_addT; walk_at "side"))
local macro_rules | `(tactic| walk_at "ra") => `(tactic| first
  | exact d_lenL | exact d_lenT | (apply d_lenS; walk_at "side") | exact d_lenR | exact d_lenD | exact d_sum | exact d_all | exact d_any
  | (apply d_max; walk_at "side") | (apply d_min; walk_at "side") | exact d_max2 | exact d_min2 | exact d_abs | exact d_int | exact d_intB
  | (apply d_intS; walk_at "side"; walk_at "side") | (apply d_str; walk_at "log") | exact d_listL | exact d_listT | exact d_listD | exact d_tupL | exact d_sorted
  | exact d_isiTy (b := true) rfl (by decide +kernel) | exact d_isiTy (b := false) rfl (by decide +kernel))
local macro_rules | `(tactic| walk_at "gs") => `(tactic| first
  | exact gs_nil | (apply gs_cons; walk_at "gd"; walk_at "gs"))
local macro_rules | `(tactic| walk_at "gd") => `(tactic| first
  | exact gd_name (by decide) | (apply gd_tupU; walk_at "gs"; rfl) | (apply gd_lstU; walk_at "gs"; rfl))
local macro_rules | `(tactic| walk_at "ea") => `(tactic| first
  | exact ea_nil | (apply ea_cons; walk_at "ev"; walk_at "ea") | (apply ea_starT; walk_at "ev"; walk_at "ea") | (apply ea_starL; walk_at "ev"; walk_at "ea"))
local macro_rules | `(tactic| walk_at "eo") => `(tactic| first
  | exact eo_none | (apply eo_some; walk_at "ev"))
local macro_rules | `(tactic| walk_at "it") => `(tactic| first
  | (apply it_r1; walk_at "ea"; walk_at "side"; walk_at "side")
  | (apply it_r2; walk_at "ea"; walk_at "side"; walk_at "side"; walk_at "side"; walk_at "side")
  | (apply it_en; walk_at "ea"; first | exact Or.inl rfl | exact Or.inr rfl)
  | (apply it_zp; walk_at "ea"; (first | exact Or.inl rfl | exact Or.inr rfl); (first | exact Or.inl rfl | exact Or.inr rfl))
  | (apply it_anyL; walk_at "ev") | (apply it_anyT; walk_at "ev") | (apply it_anyS; walk_at "ev"))
local macro_rules | `(tactic| walk_at "hds") => `(tactic| first | rfl | exact (List.map_id _).symm)
local macro_rules | `(tactic| walk_at "turn1") => `(tactic| (intro a ha; apply ex2; walk_at "gd"; walk_at "ev"))
local macro_rules | `(tactic| walk_at "turn2") => `(tactic| (intro a ha; apply ex3; walk_at "gd"; walk_at "et"; (intro hb; walk_at "ev")))
local macro_rules | `(tactic| walk_at "lc") => `(tactic| first
  | (apply en_lc1I; walk_at "it"; walk_at "hds"; exact trivial; walk_at "side"; walk_at "turn1")
  | (apply en_lc1B; walk_at "it"; walk_at "hds"; exact trivial; walk_at "side"; walk_at "turn1")
  | (apply en_lc1S; walk_at "it"; walk_at "hds"; exact trivial; walk_at "side"; walk_at "turn1")
  | (apply en_lc1; walk_at "it"; walk_at "hds"; exact trivial; walk_at "side"; walk_at "turn1")
  | (apply en_lcI; walk_at "it"; walk_at "hds"; exact trivial; walk_at "side"; walk_at "turn2")
  | (apply en_lcS; walk_at "it"; walk_at "hds"; exact trivial; walk_at "side"; walk_at "turn2")
  | (apply en_lc; walk_at "it"; walk_at "hds"; exact trivial; walk_at "side"; walk_at "turn2"))
local macro_rules | `(tactic| walk_at "ev") => `(tactic| first
  | exact ev_int | exact ev_str | exact ev_bl | exact ev_non | exact ev_ty | exact ev_adr | exact ev_var rfl
  | (apply ev_op; walk_at "ev"; walk_at "ev"; walk_at "r2")
  | (apply ev_ixW; rfl; walk_at "ev"; rfl; walk_at "ix")
  | (apply ev_un; walk_at "ev"; exact d_uNeg)
  | (apply ev_cb; walk_at "ea"; walk_at "ra")
  | (apply ev_tup; walk_at "ea"; walk_at "side")
  | (apply ev_call; walk_at "ea"; walk_at "R")
  | (apply ev_meth; walk_at "ev"; decide; walk_at "ea"; walk_at "R")
  | (apply ev_prop; walk_at "ev"; walk_at "R")
  | (apply ev_fz; walk_at "lc")
  | (apply ev_lst; walk_at "ea"; walk_at "side")
  | (apply ev_andV; walk_at "ev"; (intro h1; walk_at "ev"))
  | (apply ev_orV; walk_at "ev"; (intro h1; walk_at "ev"))
  | (apply ev_notV; walk_at "ev")
  | (apply ev_chain; walk_at "ev"; walk_at "ev"; walk_at "r2"; (intro h1; apply And.intro; walk_at "ev"; walk_at "r2"))
  | (apply ev_slL; walk_at "ev"; walk_at "eo"; walk_at "eo")
  | (apply ev_slT; walk_at "ev"; walk_at "eo"; walk_at "eo")
  | (apply ev_slS; walk_at "ev"; walk_at "eo"; walk_at "eo"; walk_at "side")
  | (apply ev_indexI; walk_at "ev"; walk_at "ev"; walk_at "side"))
local macro_rules | `(tactic| walk_at "et") => `(tactic| first
  | (apply et_test; walk_at "ev") | (apply et_B; walk_at "ev") | (apply et_not; walk_at "et")
  | (apply et_and; walk_at "et"; (intro h1; walk_at "et")) | (apply et_or; walk_at "et"; (intro h1; walk_at "et")) | exact et_yes)
local macro_rules | `(tactic| walk_at "nrm") => `(tactic| (try simp only [List.set_cons_succ, List.set_cons_zero]))
local macro_rules | `(tactic| walk_at "asg") => `(tactic| (apply q_asg; walk_at "ev"; walk_at "nrm"))
local macro_rules | `(tactic| walk_at "drop") => `(tactic| (apply q_drop; walk_at "ev"))
local macro_rules | `(tactic| walk_at "tup") => `(tactic| (apply q_tupU; walk_at "ev"; walk_at "gs"; rfl; walk_at "nrm"))
local macro_rules | `(tactic| walk_at "ret") => `(tactic| (apply st_ret; walk_at "ev"))
local macro_rules | `(tactic| walk_at "bf") => `(tactic| focus (first | rfl | (simp; done) | (simp; omega) | (simp [*]; done) | (simp [*]; omega)))
local macro_rules | `(tactic| walk_at "no") => `(tactic| (apply q_no; walk_at "et"; walk_at "bf"))
local macro_rules | `(tactic| walk_at "chk") => `(tactic| (apply st_chk; walk_at "et"; walk_at "bf"; rfl))
local macro_rules | `(tactic| walk_at "unl") => `(tactic| (apply q_lstU; walk_at "ev"; walk_at "gs"; rfl; walk_at "nrm"))
local macro_rules | `(tactic| walk_at "R") => `(tactic| exact r_is_integer)
local macro_rules | `(tactic| walk_at "R") => `(tactic| exact r_is_between)
local macro_rules | `(tactic| walk_at "R") => `(tactic| exact r_is_day)
local macro_rules | `(tactic| walk_at "R") => `(tactic| exact r_check_year (by walk_at "side"))
local macro_rules | `(tactic| walk_at "R") => `(tactic| exact r_check_number (by walk_at "side"))
local macro_rules | `(tactic| walk_at "R") => `(tactic| exact r_check_life (by walk_at "side"))
local macro_rules | `(tactic| walk_at "R") => `(tactic| exact r_are_plants_of (by walk_at "side") (by walk_at "side"))
local macro_rules | `(tactic| walk_at "R") => `(tactic| exact r_check_plants (by walk_at "side") (by walk_at "side"))
local macro_rules | `(tactic| walk_at "R") => `(tactic| exact r_bearing_by (by walk_at "side") (by walk_at "side"))
def R_bearing (ds : List D) (d : D) : Prop := ∃ (y l : Int) (ps : List Int) (t : Int), Life y l ∧ Plants l ps ∧ (0 ≤ t ∧ t ≤ 9999) ∧ ds = [.tup [.int y, .int l], .tup (ps.map .int), .int t] ∧ d = .int (bearB y l ps t)
theorem r_bearing {y l : Int} {ps : List Int} {t : Int} (h : Life y l) (h2 : Plants l ps) (h3 : 0 ≤ t ∧ t ≤ 9999) : R_bearing [.tup [.int y, .int l], .tup (ps.map .int), .int t] (.int (bearB y l ps t)) := ⟨y, l, ps, t, h, h2, h3, rfl, rfl⟩
theorem Life.pos {y l : Int} (h : Life y l) : 0 < l := by obtain ⟨h1, h2, h3⟩ := h; omega
theorem p_bearing : ∀ ds d, R_bearing ds d → St K (t_bearing K (spD K R_check_plants) (spD K R_check_year) (spD K R_bearing_by)) (ds.map Slot.val ++ List.replicate (N_bearing.length - ds.length) .no) (Ret d) := by
  rintro _ _ ⟨y, l, ps, t, h, h2, h3, rfl, rfl⟩
  show St K _ [.val (.tup [.int y, .int l]), .val (.tup (ps.map .int)), .val (.int t)] _
  have hl := h.pos
  have hp := h2.1
  walk_at "drop"
  walk_at "drop"
  walk_at "ret"
  rfl
local macro_rules | `(tactic| walk_at "R") => `(tactic| exact r_bearing (by walk_at "side") (by walk_at "side") (by walk_at "side"))
/-- the rows of a life -/
def rowsB (y l : Int) (ps : List Int) : List Int := (List.range l.toNat).map fun i => bearB y l ps (i : Nat)
def R_bearings_of (ds : List D) (d : D) : Prop := ∃ (y l : Int) (ps : List Int), Life y l ∧ ps.length ≤ 60 ∧ ds = [.tup [.int y, .int l], .tup (ps.map .int)] ∧ d = .lst ((rowsB y l ps).map .int)
theorem r_bearings_of {y l : Int} {ps : List Int} (h : Life y l) (h2 : ps.length ≤ 60) : R_bearings_of [.tup [.int y, .int l], .tup (ps.map .int)] (.lst ((rowsB y l ps).map .int)) := ⟨y, l, ps, h, h2, rfl, rfl⟩
theorem p_bearings_of : ∀ ds d, R_bearings_of ds d → St K (t_bearings_of K (spD K R_bearing_by)) (ds.map Slot.val ++ List.replicate (N_bearings_of.length - ds.length) .no) (Ret d) := by
  rintro _ _ ⟨y, l, ps, h, h2, rfl, rfl⟩
  show St K _ [.val (.tup [.int y, .int l]), .val (.tup (ps.map .int)), .no] _
  have hl := h.pos
  obtain ⟨h3, h4, h5⟩ := h
  walk_at "ret"
  rfl
local macro_rules | `(tactic| walk_at "R") => `(tactic| exact r_bearings_of (by walk_at "side") (by walk_at "side"))
theorem rowsB_ne {y l : Int} {ps : List Int} (h : Life y l) : rowsB y l ps ≠ [] := by
  intro e
  have : (rowsB y l ps).length = 0 := by rw [e]; rfl
  have hl := h.pos
  simp [rowsB] at this
  omega
def R_least_bearing (ds : List D) (d : D) : Prop := ∃ (y l : Int) (ps : List Int), Life y l ∧ Plants l ps ∧ ds = [.tup [.int y, .int l], .tup (ps.map .int)] ∧ d = .tup [.int (mnL (rowsB y l ps)), .int ((rowsB y l ps).idxOf (mnL (rowsB y l ps)) : Nat)]
theorem r_least_bearing {y l : Int} {ps : List Int} (h : Life y l) (h2 : Plants l ps) : R_least_bearing [.tup [.int y, .int l], .tup (ps.map .int)] (.tup [.int (mnL (rowsB y l ps)), .int ((rowsB y l ps).idxOf (mnL (rowsB y l ps)) : Nat)]) := ⟨y, l, ps, h, h2, rfl, rfl⟩
theorem p_least_bearing : ∀ ds d, R_least_bearing ds d → St K (t_least_bearing K (spD K R_check_plants) (spD K R_bearings_of)) (ds.map Slot.val ++ List.replicate (N_least_bearing.length - ds.length) .no) (Ret d) := by
  rintro _ _ ⟨y, l, ps, h, h2, rfl, rfl⟩
  show St K _ [.val (.tup [.int y, .int l]), .val (.tup (ps.map .int)), .no] _
  have hp := h2.1
  have hne := rowsB_ne (ps := ps) h
  have hm := mnL_mem hne
  walk_at "drop"
  walk_at "asg"
  walk_at "ret"
  rfl
local macro_rules | `(tactic| walk_at "R") => `(tactic| exact r_least_bearing (by walk_at "side") (by walk_at "side"))
def R_most_bearing (ds : List D) (d : D) : Prop := ∃ (y l : Int) (ps : List Int), Life y l ∧ Plants l ps ∧ ds = [.tup [.int y, .int l], .tup (ps.map .int)] ∧ d = .tup [.int (mxL (rowsB y l ps)), .int ((rowsB y l ps).idxOf (mxL (rowsB y l ps)) : Nat)]
theorem r_most_bearing {y l : Int} {ps : List Int} (h : Life y l) (h2 : Plants l ps) : R_most_bearing [.tup [.int y, .int l], .tup (ps.map .int)] (.tup [.int (mxL (rowsB y l ps)), .int ((rowsB y l ps).idxOf (mxL (rowsB y l ps)) : Nat)]) := ⟨y, l, ps, h, h2, rfl, rfl⟩
theorem p_most_bearing : ∀ ds d, R_most_bearing ds d → St K (t_most_bearing K (spD K R_check_plants) (spD K R_bearings_of)) (ds.map Slot.val ++ List.replicate (N_most_bearing.length - ds.length) .no) (Ret d) := by
  rintro _ _ ⟨y, l, ps, h, h2, rfl, rfl⟩
  show St K _ [.val (.tup [.int y, .int l]), .val (.tup (ps.map .int)), .no] _
  have hp := h2.1
  have hne := rowsB_ne (ps := ps) h
  have hm := mxL_mem hne
  walk_at "drop"
  walk_at "asg"
  walk_at "ret"
  rfl
local macro_rules | `(tactic| walk_at "R") => `(tactic| exact r_most_bearing (by walk_at "side") (by walk_at "side"))
/-! plants evenly spread -/
def evenP (l n : Int) : List Int := (List.range n.toNat).map fun i => ((i : Nat) : Int) * l / n
def R_even_plants (ds : List D) (d : D) : Prop := ∃ (y l n : Int), Life y l ∧ (1 ≤ n ∧ n ≤ 60) ∧ ds = [.tup [.int y, .int l], .int n] ∧ d = .tup ((evenP l n).map .int)
theorem r_even_plants {y l n : Int} (h : Life y l) (h2 : 1 ≤ n ∧ n ≤ 60) : R_even_plants [.tup [.int y, .int l], .int n] (.tup ((evenP l n).map .int)) := ⟨y, l, n, h, h2, rfl, rfl⟩
theorem p_even_plants : ∀ ds d, R_even_plants ds d → St K (t_even_plants K) (ds.map Slot.val ++ List.replicate (N_even_plants.length - ds.length) .no) (Ret d) := by
  rintro _ _ ⟨y, l, n, ⟨h1, h2, h3⟩, ⟨h4, h5⟩, rfl, rfl⟩
  show St K _ [.val (.tup [.int y, .int l]), .val (.int n), .no] _
  apply st_ret
  apply ev_cb
  apply ea_cons
  apply ev_fz
  · apply en_lc1I
    walk_at "it"
    rfl
    trivial
    · simp; omega
    · intro a ha
      have ha : a < n.toNat := by simpa using ha
      apply ex2
      walk_at "gd"
      walk_at "ev"
  exact ea_nil
  exact d_tupL
  rfl
local macro_rules | `(tactic| walk_at "R") => `(tactic| exact r_even_plants (by walk_at "side") (by walk_at "side"))
def R_most_always (ds : List D) (d : D) : Prop := ∃ (y l n : Int), Life y l ∧ (0 ≤ n ∧ n ≤ 60) ∧ ds = [.tup [.int y, .int l], .int n] ∧ d = .int (n * (l - y) / l)
theorem r_most_always {y l n : Int} (h : Life y l) (h2 : 0 ≤ n ∧ n ≤ 60) : R_most_always [.tup [.int y, .int l], .int n] (.int (n * (l - y) / l)) := ⟨y, l, n, h, h2, rfl, rfl⟩
theorem p_most_always : ∀ ds d, R_most_always ds d → St K (t_most_always K) (ds.map Slot.val ++ List.replicate (N_most_always.length - ds.length) .no) (Ret d) := by
  rintro _ _ ⟨y, l, n, ⟨h1, h2, h3⟩, ⟨h4, h5⟩, rfl, rfl⟩
  show St K _ [.val (.tup [.int y, .int l]), .val (.int n)] _
  walk_at "ret"
  rfl
local macro_rules | `(tactic| walk_at "R") => `(tactic| exact r_most_always (by walk_at "side") (by walk_at "side"))
def R_best_plants (ds : List D) (d : D) : Prop := ∃ (y l n : Int), Life y l ∧ (1 ≤ n ∧ n ≤ 60) ∧ ds = [.tup [.int y, .int l], .int n] ∧ d = .tup [.int (n * (l - y) / l), .tup ((evenP l n).map .int)]
theorem r_best_plants {y l n : Int} (h : Life y l) (h2 : 1 ≤ n ∧ n ≤ 60) : R_best_plants [.tup [.int y, .int l], .int n] (.tup [.int (n * (l - y) / l), .tup ((evenP l n).map .int)]) := ⟨y, l, n, h, h2, rfl, rfl⟩
theorem p_best_plants : ∀ ds d, R_best_plants ds d → St K (t_best_plants K (spD K R_check_life) (spD K R_check_number) (spD K R_even_plants) (spD K R_most_always)) (ds.map Slot.val ++ List.replicate (N_best_plants.length - ds.length) .no) (Ret d) := by
  rintro _ _ ⟨y, l, n, h, h2, rfl, rfl⟩
  show St K _ [.val (.tup [.int y, .int l]), .val (.int n)] _
  have h3 : 0 ≤ n ∧ n ≤ 60 := by omega
  walk_at "drop"
  walk_at "drop"
  walk_at "ret"
  rfl
local macro_rules | `(tactic| walk_at "R") => `(tactic| exact r_best_plants (by walk_at "side") (by walk_at "side"))
end K83

set_option Elab.async false
set_option linter.all false
set_option maxRecDepth 100000
set_option maxHeartbeats 4000000
set_option autoImplicit false
namespace K83
open PySem L2 Dl StX
variable {K : PySem.W.Frag}
local macro_rules | `(tactic| walk_at "side") => `(tactic| focus (first | assumption | rfl | exact Nat.le_of_ble_eq_true rfl | omega | decide | (simp; done) | (simp; omega)))
local macro_rules | `(tactic| walk_at "ix") => `(tactic| first | rfl | assumption | exact atI_nat (by focus (first | rfl | assumption | (simp; done))))
local macro_rules | `(tactic| walk_at "log") => `(tactic| first | assumption | exact mul_sm (by unfold Sm; omega) (by unfold Sm; omega) | exact log_sm2 (by unfold Sm; omega) | exact log_sm (by unfold Sm; omega) | decide)
local macro_rules | `(tactic| walk_at "R") => `(tactic| fail "no R")
local macro_rules | `(tactic| walk_at "r2") => `(tactic| first
  | exact d_add | exact d_sub | exact d_lt | exact d_le | exact d_gt | exact d_ge | exact d_eqI | exact d_neI | exact d_eqS | exact d_neS | exact d_eqB | exact d_neB
  | exact d_isN | exact d_ntN | exact d_isB | exact d_ntB
  | (apply d_mod; walk_at "side") | (apply d_div; walk_at "side"; walk_at "log") | (apply d_mul; walk_at "log") | (apply d_pow; walk_at "side"; walk_at "log")
  | exact d_inS | exact d_niS | exact d_inST | exact d_niST | exact d_inG | exact d_niG
  | (apply d_ixL; walk_at "ix") | (apply d_ixT; walk_at "ix") | (apply d_ixR; walk_at "ix") | (apply d_ixS; walk_at "side"; walk_at "ix") | (apply d_ixDs; walk_at "ix")
  | (apply d_inD; walk_at "side") | (apply d_niD; walk_at "side")
  | (apply d_addS; walk_at "side") | (apply d_addL; walk_at "side") | (apply d_addT; walk_at "side"))
local macro_rules | `(tactic| walk_at "ra") => `(tactic| first
  | exact d_lenL | exact d_lenT | (apply d_lenS; walk_at "side") | exact d_lenR | exact d_lenD | exact d_sum | exact d_all | exact d_any
  | (apply d_max; walk_at "side") | (apply d_min; walk_at "side") | exact d_max2 | exact d_min2 | exact d_abs | exact d_int | exact d_intB
  | (apply d_intS; walk_at "side"; walk_at "side") | (apply d_str; walk_at "log") | exact d_listL | exact d_listT | exact d_listD | exact d_tupL | exact d_sorted
  | exact d_isiTy (b := true) rfl (by decide +kernel) | exact d_isiTy (b := false) rfl (by decide +kernel))
local macro_rules | `(tactic| walk_at "gs") => `(tactic| first
  | exact gs_nil | (apply gs_cons; walk_at "gd"; walk_at "gs"))
local macro_rules | `(tactic| walk_at "gd") => `(tactic| first
  | exact gd_name (by decide) | (apply gd_tupU; walk_at "gs"; rfl) | (apply gd_lstU; walk_at "gs"; rfl))
local macro_rules | `(tactic| walk_at "ea") => `(tactic| first
  | exact ea_nil | (apply ea_cons; walk_at "ev"; walk_at "ea") | (apply ea_starT; walk_at "ev"; walk_at "ea") | (apply ea_starL; walk_at "ev"; walk_at "ea"))
local macro_rules | `(tactic| walk_at "eo") => `(tactic| first
  | exact eo_none | (apply eo_some; walk_at "ev"))
local macro_rules | `(tactic| walk_at "it") => `(tactic| first
  | (apply it_r1; walk_at "ea"; walk_at "side"; walk_at "side")
  | (apply it_r2; walk_at "ea"; walk_at "side"; walk_at "side"; walk_at "side"; walk_at "side")
  | (apply it_en; walk_at "ea"; first | exact Or.inl rfl | exact Or.inr rfl)
  | (apply it_zp; walk_at "ea"; (first | exact Or.inl rfl | exact Or.inr rfl); (first | exact Or.inl rfl | exact Or.inr rfl))
  | (apply it_anyL; walk_at "ev") | (apply it_anyT; walk_at "ev") | (apply it_anyS; walk_at "ev"))
local macro_rules | `(tactic| walk_at "hds") => `(tactic| first | rfl | exact (List.map_id _).symm)
local macro_rules | `(tactic| walk_at "turn1") => `(tactic| (intro a ha; apply ex2; walk_at "gd"; walk_at "ev"))
local macro_rules | `(tactic| walk_at "turn2") => `(tactic| (intro a ha; apply ex3; walk_at "gd"; walk_at "et"; (intro hb; walk_at "ev")))
local macro_rules | `(tactic| walk_at "lc") => `(tactic| first
  | (apply en_lc1I; walk_at "it"; walk_at "hds"; exact trivial; walk_at "side"; walk_at "turn1")
  | (apply en_lc1B; walk_at "it"; walk_at "hds"; exact trivial; walk_at "side"; walk_at "turn1")
  | (apply en_lc1S; walk_at "it"; walk_at "hds"; exact trivial; walk_at "side"; walk_at "turn1")
  | (apply en_lc1; walk_at "it"; walk_at "hds"; exact trivial; walk_at "side"; walk_at "turn1")
  | (apply en_lcI; walk_at "it"; walk_at "hds"; exact trivial; walk_at "side"; walk_at "turn2")
  | (apply en_lcS; walk_at "it"; walk_at "hds"; exact trivial; walk_at "side"; walk_at "turn2")
  | (apply en_lc; walk_at "it"; walk_at "hds"; exact trivial; walk_at "side"; walk_at "turn2"))
local macro_rules | `(tactic| walk_at "ev") => `(tactic| first
  | exact ev_int | exact ev_str | exact ev_bl | exact ev_non | exact ev_ty | exact ev_adr | exact ev_var rfl
  | (apply ev_op; walk_at "ev"; walk_at "ev"; walk_at "r2")
  | (apply ev_ixW; rfl; walk_at "ev"; rfl; walk_at "ix")
  | (apply ev_un; walk_at "ev"; exact d_uNeg)
  | (apply ev_cb; walk_at "ea"; walk_at "ra")
  | (apply ev_tup; walk_at "ea"; walk_at "side")
  | (apply ev_call; walk_at "ea"; walk_at "R")
  | (apply ev_meth; walk_at "ev"; decide; walk_at "ea"; walk_at "R")
  | (apply ev_prop; walk_at "ev"; walk_at "R")
  | (apply ev_fz; walk_at "lc")
  | (apply ev_lst; walk_at "ea"; walk_at "side")
  | (apply ev_andV; walk_at "ev"; (intro h1; walk_at "ev"))
  | (apply ev_orV; walk_at "ev"; (intro h1; walk_at "ev"))
  | (apply ev_notV; walk_at "ev")
  | (apply ev_chain; walk_at "ev"; walk_at "ev"; walk_at "r2"; (intro h1; apply And.intro; walk_at "ev"; walk_at "r2"))
  | (apply ev_slL; walk_at "ev"; walk_at "eo"; walk_at "eo")
  | (apply ev_slT; walk_at "ev"; walk_at "eo"; walk_at "eo")
  | (apply ev_slS; walk_at "ev"; walk_at "eo"; walk_at "eo"; walk_at "side")
  | (apply ev_indexI; walk_at "ev"; walk_at "ev"; walk_at "side"))
local macro_rules | `(tactic| walk_at "et") => `(tactic| first
  | (apply et_test; walk_at "ev") | (apply et_B; walk_at "ev") | (apply et_not; walk_at "et")
  | (apply et_and; walk_at "et"; (intro h1; walk_at "et")) | (apply et_or; walk_at "et"; (intro h1; walk_at "et")) | exact et_yes)
local macro_rules | `(tactic| walk_at "nrm") => `(tactic| (try simp only [List.set_cons_succ, List.set_cons_zero]))
local macro_rules | `(tactic| walk_at "asg") => `(tactic| (apply q_asg; walk_at "ev"; walk_at "nrm"))
local macro_rules | `(tactic| walk_at "drop") => `(tactic| (apply q_drop; walk_at "ev"))
local macro_rules | `(tactic| walk_at "tup") => `(tactic| (apply q_tupU; walk_at "ev"; walk_at "gs"; rfl; walk_at "nrm"))
local macro_rules | `(tactic| walk_at "ret") => `(tactic| (apply st_ret; walk_at "ev"))
local macro_rules | `(tactic| walk_at "bf") => `(tactic| focus (first | rfl | (simp; done) | (simp; omega) | (simp [*]; done) | (simp [*]; omega)))
local macro_rules | `(tactic| walk_at "no") => `(tactic| (apply q_no; walk_at "et"; walk_at "bf"))
local macro_rules | `(tactic| walk_at "chk") => `(tactic| (apply st_chk; walk_at "et"; walk_at "bf"; rfl))
local macro_rules | `(tactic| walk_at "unl") => `(tactic| (apply q_lstU; walk_at "ev"; walk_at "gs"; rfl; walk_at "nrm"))
local macro_rules | `(tactic| walk_at "R") => `(tactic| exact r_is_integer)
local macro_rules | `(tactic| walk_at "R") => `(tactic| exact r_is_between)
local macro_rules | `(tactic| walk_at "R") => `(tactic| exact r_is_day)
local macro_rules | `(tactic| walk_at "R") => `(tactic| exact r_check_year (by walk_at "side"))
local macro_rules | `(tactic| walk_at "R") => `(tactic| exact r_check_number (by walk_at "side"))
local macro_rules | `(tactic| walk_at "R") => `(tactic| exact r_check_life (by walk_at "side"))
local macro_rules | `(tactic| walk_at "R") => `(tactic| exact r_are_plants_of (by walk_at "side") (by walk_at "side"))
local macro_rules | `(tactic| walk_at "R") => `(tactic| exact r_check_plants (by walk_at "side") (by walk_at "side"))
local macro_rules | `(tactic| walk_at "R") => `(tactic| exact r_bearing_by (by walk_at "side") (by walk_at "side"))
local macro_rules | `(tactic| walk_at "R") => `(tactic| exact r_bearing (by walk_at "side") (by walk_at "side") (by walk_at "side"))
local macro_rules | `(tactic| walk_at "R") => `(tactic| exact r_bearings_of (by walk_at "side") (by walk_at "side"))
local macro_rules | `(tactic| walk_at "R") => `(tactic| exact r_least_bearing (by walk_at "side") (by walk_at "side"))
local macro_rules | `(tactic| walk_at "R") => `(tactic| exact r_most_bearing (by walk_at "side") (by walk_at "side"))
local macro_rules | `(tactic| walk_at "R") => `(tactic| exact r_even_plants (by walk_at "side") (by walk_at "side"))
local macro_rules | `(tactic| walk_at "R") => `(tactic| exact r_most_always (by walk_at "side") (by walk_at "side"))
local macro_rules | `(tactic| walk_at "R") => `(tactic| exact r_best_plants (by walk_at "side") (by walk_at "side"))
/-! the greatest common measure -/
def R_common (ds : List D) (d : D) : Prop := ∃ a b : Int, (0 ≤ a ∧ a ≤ 1000000000) ∧ (0 ≤ b ∧ b ≤ 1000000000) ∧ ds = [.int a, .int b] ∧ d = .int (Int.gcd a b : Nat)
theorem r_common {a b : Int} (h : 0 ≤ a ∧ a ≤ 1000000000) (h2 : 0 ≤ b ∧ b ≤ 1000000000) : R_common [.int a, .int b] (.int (Int.gcd a b : Nat)) := ⟨a, b, h, h2, rfl, rfl⟩
theorem gcd_step {a b : Int} : Int.gcd b (a % b) = Int.gcd a b := by rw [Int.emod_def, Int.gcd_sub_mul_left_right, Int.gcd_comm]
theorem p_common : ∀ ds d, R_common ds d → St K (t_common K) (ds.map Slot.val ++ List.replicate (N_common.length - ds.length) .no) (Ret d) := by
  rintro _ _ ⟨a, b, ⟨h1, h2⟩, ⟨h3, h4⟩, rfl, rfl⟩
  show St K _ [.val (.int a), .val (.int b)] _
  refine Dl.q ?_
  refine st_while (fun m e => ∃ x y : Int, 0 ≤ x ∧ x ≤ 1000000000 ∧ 0 ≤ y ∧ y ≤ 1000000000 ∧ y.toNat = m ∧ Int.gcd x y = Int.gcd a b ∧ e = [.val (.int x), .val (.int y)]) b.toNat ⟨a, b, h1, h2, h3, h4, rfl, rfl, rfl⟩ ?_
  rintro m _ ⟨x, y, k1, k2, k3, k4, rfl, k6, rfl⟩
  refine ⟨!decide (y = 0), [.val (.int x), .val (.int y)], et_is (by walk_at "et") (by simp), fun hb => ?_, fun hb => ?_⟩
  · have hy : y ≠ 0 := by simpa using hb
    have hpos : 0 < y := by omega
    have m1 := Int.emod_nonneg x hy
    have m2 := Int.emod_lt_of_pos x hpos
    apply st_par
    walk_at "ea"
    walk_at "nrm"
    exact ⟨(x % y).toNat, by omega, y, x % y, k3, k4, m1, by omega, rfl, by rw [gcd_step, k6], rfl⟩
  · have hy : y = 0 := by simpa using hb
    subst hy
    show St K _ _ _
    walk_at "ret"
    show D.int _ = D.int _
    rw [← k6, Int.gcd_zero_right]
local macro_rules | `(tactic| walk_at "R") => `(tactic| exact r_common (by walk_at "side") (by walk_at "side"))
def R_reduced (ds : List D) (d : D) : Prop := ∃ a b : Int, (0 ≤ a ∧ a ≤ 1000000000) ∧ (1 ≤ b ∧ b ≤ 1000000000) ∧ ds = [.int a, .int b] ∧ d = .tup [.int (a / (Int.gcd a b : Nat)), .int (b / (Int.gcd a b : Nat))]
theorem r_reduced {a b : Int} (h : 0 ≤ a ∧ a ≤ 1000000000) (h2 : 1 ≤ b ∧ b ≤ 1000000000) : R_reduced [.int a, .int b] (.tup [.int (a / (Int.gcd a b : Nat)), .int (b / (Int.gcd a b : Nat))]) := ⟨a, b, h, h2, rfl, rfl⟩
theorem p_reduced : ∀ ds d, R_reduced ds d → St K (t_reduced K (spD K R_common)) (ds.map Slot.val ++ List.replicate (N_reduced.length - ds.length) .no) (Ret d) := by
  rintro _ _ ⟨a, b, ⟨h1, h2⟩, ⟨h3, h4⟩, rfl, rfl⟩
  show St K _ [.val (.int a), .val (.int b), .no] _
  have hg : (0 : Int) < (Int.gcd a b : Nat) := by
    have : 0 < Int.gcd a b := Int.gcd_pos_iff.mpr (.inr (by omega))
    omega
  have h5 : (0 ≤ b ∧ b ≤ 1000000000) := by omega
  have hle : ((Int.gcd a b : Nat) : Int) ≤ b := Int.le_of_dvd (by omega) (Int.gcd_dvd_right ..)
  refine q_asg (d := .int (Int.gcd a b : Nat)) (ev_if (x := true) (et_is (by walk_at "et") (by simp; omega)) (fun _ => by walk_at "ev") (fun h => nomatch h)) ?_
  walk_at "nrm"
  walk_at "ret"
  rfl
local macro_rules | `(tactic| walk_at "R") => `(tactic| exact r_reduced (by walk_at "side") (by walk_at "side"))
/-! words -/
def NmOk (x : Str) : Prop := x.length ≤ 8 ∧ (∃ c, atI x.cps.toList 0 = some c ∧ c ∈ ("abcdefghijklmnopqrstuvwxyz" : Str).cps.toList) ∧ ∀ c ∈ x.cps.toList, c ∈ ("abcdefghijklmnopqrstuvwxyz" : Str).cps.toList ∨ c ∈ ("0123456789" : Str).cps.toList
def R_is_name (ds : List D) (d : D) : Prop := ∃ x : Str, NmOk x ∧ ds = [.str x] ∧ d = .bl true
theorem r_is_name {x : Str} (h : NmOk x) : R_is_name [.str x] (.bl true) := ⟨x, h, rfl, rfl⟩
theorem atI_pos {α : Type} {l : List α} {c : α} (h : atI l 0 = some c) : 0 < l.length := by
  cases l with
  | nil => simp [atI] at h
  | cons a l => simp
theorem p_is_name : ∀ ds d, R_is_name ds d → St K (t_is_name K) (ds.map Slot.val ++ List.replicate (N_is_name.length - ds.length) .no) (Ret d) := by
  rintro _ _ ⟨x, ⟨h1, ⟨c, h2, h3⟩, h4⟩, rfl, rfl⟩
  show St K _ [.val (.str x), .no] _
  have hp : 0 < x.length := by
    have := atI_pos h2
    simpa [Str.length] using this
  have hz : x.length ≤ 100000 := by omega
  apply q_no
  · walk_at "et"
  · simp [h3]
    omega
  apply st_ret
  apply ev_cb
  apply ea_cons
  apply ev_fz
  · apply en_lc1B
    walk_at "it"
    rfl
    trivial
    · simp [Str.length] at h1 ⊢
      omega
    · intro a ha
      apply ex2
      walk_at "gd"
      walk_at "ev"
  exact ea_nil
  exact d_all
  show D.bl _ = D.bl _
  congr 1
  simp only [List.all_map, List.all_eq_true, Function.comp, id]
  intro a ha
  have := h4 a ha
  simpa using this
local macro_rules | `(tactic| walk_at "R") => `(tactic| exact r_is_name (by walk_at "side"))
/-- w tells n -/
structure RdI (w : Str) (n : Int) : Prop where
  pos : 0 < w.length
  le : w.length ≤ 9
  sg : cutS w none (some 1) ≠ ("-" : Str)
  fg : ∀ c ∈ w.cps.toList, c ∈ ("0123456789" : Str).cps.toList
  rd : intText? w = some n
  bk : Str.ofString (toString n) = w
  sm : n.natAbs.log2 < 1920
def R_read_integer (ds : List D) (d : D) : Prop := ∃ w n, RdI w n ∧ ds = [.str w] ∧ d = .int n
theorem r_read_integer {w : Str} {n : Int} (h : RdI w n) : R_read_integer [.str w] (.int n) := ⟨w, n, h, rfl, rfl⟩
theorem p_read_integer : ∀ ds d, R_read_integer ds d → St K (t_read_integer K) (ds.map Slot.val ++ List.replicate (N_read_integer.length - ds.length) .no) (Ret d) := by
  rintro _ _ ⟨w, n, ⟨h1, h2, h3, h4, h5, h6, h7⟩, rfl, rfl⟩
  show St K _ [.val (.str w), .no, .no, .no] _
  have hz : w.length ≤ 100000 := by omega
  have hz2 : w.cps.toList.length ≤ 90000 := by
    have : w.cps.size ≤ 9 := h2
    simp; omega
  refine q_asg (d := .str w) (ev_if (x := false) (et_is (by walk_at "et") (by simp [h3])) (fun h => nomatch h) (fun _ => by walk_at "ev")) ?_
  walk_at "nrm"
  apply q_no
  · walk_at "et"
  · have hne : w ≠ "" := fun z => by rw [z] at h1; exact absurd h1 (by decide)
    rw [Bool.or_eq_false_iff, Bool.or_eq_false_iff]
    refine ⟨by simpa using hne, by simp; omega, ?_⟩
    rw [Bool.not_eq_false']
    refine List.all_eq_true.mpr fun b hb => ?_
    obtain ⟨c, hc, rfl⟩ := List.mem_map.mp hb
    simpa using h4 c hc
  walk_at "asg"
  apply st_ret
  apply ev_is
  · exact ev_if (x := true) (d := .int n) (et_is (by walk_at "et") (decide_eq_true h6)) (fun _ => by walk_at "ev") (fun h => nomatch h)
  · rfl
  rfl
local macro_rules | `(tactic| walk_at "R") => `(tactic| exact r_read_integer (by walk_at "side"))
/-! the words of a palm -/
def PatOk (p : Str) : Prop := 0 < p.length ∧ p.length ≤ 6 ∧ (∀ c ∈ p.cps.toList, c ∈ ("01" : Str).cps.toList) ∧ (49 : Nat) ∈ p.cps.toList
def R_is_pattern (ds : List D) (d : D) : Prop := ∃ x : Str, PatOk x ∧ ds = [.str x] ∧ d = .bl true
theorem r_is_pattern {x : Str} (h : PatOk x) : R_is_pattern [.str x] (.bl true) := ⟨x, h, rfl, rfl⟩
theorem p_is_pattern : ∀ ds d, R_is_pattern ds d → St K (t_is_pattern K) (ds.map Slot.val ++ List.replicate (N_is_pattern.length - ds.length) .no) (Ret d) := by
  rintro _ _ ⟨x, ⟨h1, h2, h3, h4⟩, rfl, rfl⟩
  show St K _ [.val (.str x), .no] _
  have hz : x.length ≤ 100000 := by omega
  have hz2 : x.cps.toList.length ≤ 90000 := by
    have : x.cps.size ≤ 6 := h2
    simp; omega
  have one : ("1" : Str) = ⟨#[49]⟩ := by decide
  unfold t_is_pattern
  rw [one]
  walk_at "ret"
  show D.bl _ = D.bl _
  congr 1
  rw [Bool.and_eq_true, Bool.and_eq_true, Bool.and_eq_true]
  refine ⟨⟨by simpa using h1, by simp; omega⟩, List.all_eq_true.mpr fun b hb => ?_, by simpa using h4⟩
  obtain ⟨c, hc, rfl⟩ := List.mem_map.mp hb
  simpa using h3 c hc
local macro_rules | `(tactic| walk_at "R") => `(tactic| exact r_is_pattern (by walk_at "side"))
/-- the words w tell the palm d -/
structure PalmW (ws : List Str) (e o t : Int) (p : Str) (n : Int) : Prop where
  ex : ∃ w0 w1 w2 w4, ws = [w0, w1, w2, p, w4] ∧ RdI w0 e ∧ RdI w1 o ∧ RdI w2 t ∧ RdI w4 n
  he : 1 ≤ e ∧ e ≤ 60
  ho : 0 ≤ o ∧ o ≤ 999
  ht : 0 ≤ t ∧ t ≤ 999
  ot : o ≤ t
  hp : PatOk p
  hn : 1 ≤ n ∧ n ≤ 99
def R_palm_in (ds : List D) (d : D) : Prop := ∃ ws e o t p n, PalmW ws e o t p n ∧ ds = [.lst (ws.map .str)] ∧ d = .tup [.int e, .int o, .int t, .str p, .int n]
theorem r_palm_in {ws : List Str} {e o t : Int} {p : Str} {n : Int} (h : PalmW ws e o t p n) : R_palm_in [.lst (ws.map .str)] (.tup [.int e, .int o, .int t, .str p, .int n]) := ⟨ws, e, o, t, p, n, h, rfl, rfl⟩
theorem p_palm_in : ∀ ds d, R_palm_in ds d → St K (t_palm_in K (spD K R_read_integer) (spD K R_is_between) (spD K R_is_day) (spD K R_is_pattern)) (ds.map Slot.val ++ List.replicate (N_palm_in.length - ds.length) .no) (Ret d) := by
  rintro _ _ ⟨_, e, o, t, p, n, ⟨⟨w0, w1, w2, w4, rfl, r0, r1, r2, r4⟩, he, ho, ht, hot, hp, hn⟩, rfl, rfl⟩
  show St K _ [.val (.lst [.str w0, .str w1, .str w2, .str p, .str w4]), .no, .no, .no, .no, .no] _
  apply q_lstU
  · apply ev_is
    · apply ev_fz
      apply en_lc1 [(w0, e), (w1, o), (w2, t)] (fun a => D.str a.1) (fun a => D.int a.2)
      · walk_at "it"
      · rfl
      · trivial
      · exact Nat.le_of_ble_eq_true rfl
      · intro a ha
        have hr : RdI a.1 a.2 := by
          simp at ha
          rcases ha with rfl | rfl | rfl <;> assumption
        apply ex2
        walk_at "gd"
        walk_at "ev"
    · rfl
  · walk_at "gs"
  · rfl
  walk_at "nrm"
  walk_at "asg"
  walk_at "no"
  walk_at "no"
  walk_at "ret"
  rfl
local macro_rules | `(tactic| walk_at "R") => `(tactic| exact r_palm_in (by walk_at "side"))
end K83

set_option Elab.async false
set_option linter.all false
set_option maxRecDepth 100000
set_option maxHeartbeats 4000000
set_option autoImplicit false
namespace K83
open PySem L2 Dl StX
open Evl (Ex fresh_back ex_rd)
variable {K : PySem.W.Frag}
local macro_rules | `(tactic| walk_at "side") => `(tactic| focus (first | assumption | rfl | exact Nat.le_of_ble_eq_true rfl | omega | decide | (simp; done) | (simp; omega)))
local macro_rules | `(tactic| walk_at "ix") => `(tactic| first | rfl | assumption | exact atI_nat (by focus (first | rfl | assumption | (simp; done))))
local macro_rules | `(tactic| walk_at "log") => `(tactic| first | assumption | exact mul_sm (by unfold Sm; omega) (by unfold Sm; omega) | exact log_sm2 (by unfold Sm; omega) | exact log_sm (by unfold Sm; omega) | decide)
local macro_rules | `(tactic| walk_at "R") => `(tactic| fail "no R")
local macro_rules | `(tactic| walk_at "r2") => `(tactic| first
  | exact d_add | exact d_sub | exact d_lt | exact d_le | exact d_gt | exact d_ge | exact d_eqI | exact d_neI | exact d_eqS | exact d_neS | exact d_eqB | exact d_neB
  | exact d_isN | exact d_ntN | exact d_isB | exact d_ntB
  | (apply d_mod; walk_at "side") | (apply d_div; walk_at "side"; walk_at "log") | (apply d_mul; walk_at "log") | (apply d_pow; walk_at "side"; walk_at "log")
  | exact d_inS | exact d_niS | exact d_inST | exact d_niST | exact d_inG | exact d_niG
  | (apply d_ixL; walk_at "ix") | (apply d_ixT; walk_at "ix") | (apply d_ixR; walk_at "ix") | (apply d_ixS; walk_at "side"; walk_at "ix") | (apply d_ixDs; walk_at "ix")
  | (apply d_inD; walk_at "side") | (apply d_niD; walk_at "side")
  | (apply d_addS; walk_at "side") | (apply d_addL; walk_at "side") | (apply d_addT; walk_at "side"))
local macro_rules | `(tactic| walk_at "ra") => `(tactic| first
  | exact d_lenL | exact d_lenT | (apply d_lenS; walk_at "side") | exact d_lenR | exact d_lenD | exact d_sum | exact d_all | exact d_any
  | (apply d_max; walk_at "side") | (apply d_min; walk_at "side") | exact d_max2 | exact d_min2 | exact d_abs | exact d_int | exact d_intB
  | (apply d_intS; walk_at "side"; walk_at "side") | (apply d_str; walk_at "log") | exact d_listL | exact d_listT | exact d_listD | exact d_tupL | exact d_sorted
  | (apply d_isiC; assumption)
  | exact d_isiTy (b := true) rfl (by decide +kernel) | exact d_isiTy (b := false) rfl (by decide +kernel))
local macro_rules | `(tactic| walk_at "gs") => `(tactic| first
  | exact gs_nil | (apply gs_cons; walk_at "gd"; walk_at "gs"))
local macro_rules | `(tactic| walk_at "gd") => `(tactic| first
  | exact gd_name (by decide) | (apply gd_tupU; walk_at "gs"; rfl) | (apply gd_lstU; walk_at "gs"; rfl))
local macro_rules | `(tactic| walk_at "ea") => `(tactic| first
  | exact ea_nil | (apply ea_cons; walk_at "ev"; walk_at "ea") | (apply ea_starT; walk_at "ev"; walk_at "ea") | (apply ea_starL; walk_at "ev"; walk_at "ea"))
local macro_rules | `(tactic| walk_at "eo") => `(tactic| first
  | exact eo_none | (apply eo_some; walk_at "ev"))
local macro_rules | `(tactic| walk_at "it") => `(tactic| first
  | (apply it_r1; walk_at "ea"; walk_at "side"; walk_at "side")
  | (apply it_r2; walk_at "ea"; walk_at "side"; walk_at "side"; walk_at "side"; walk_at "side")
  | (apply it_en; walk_at "ea"; first | exact Or.inl rfl | exact Or.inr rfl)
  | (apply it_zp; walk_at "ea"; (first | exact Or.inl rfl | exact Or.inr rfl); (first | exact Or.inl rfl | exact Or.inr rfl))
  | (apply it_anyL; walk_at "ev") | (apply it_anyT; walk_at "ev") | (apply it_anyS; walk_at "ev"))
local macro_rules | `(tactic| walk_at "hds") => `(tactic| first | rfl | exact (List.map_id _).symm)
local macro_rules | `(tactic| walk_at "turn1") => `(tactic| (intro a ha; apply ex2; walk_at "gd"; walk_at "ev"))
local macro_rules | `(tactic| walk_at "turn2") => `(tactic| (intro a ha; apply ex3; walk_at "gd"; walk_at "et"; (intro hb; walk_at "ev")))
local macro_rules | `(tactic| walk_at "lc") => `(tactic| first
  | (apply en_lc1I; walk_at "it"; walk_at "hds"; exact trivial; walk_at "side"; walk_at "turn1")
  | (apply en_lc1B; walk_at "it"; walk_at "hds"; exact trivial; walk_at "side"; walk_at "turn1")
  | (apply en_lc1S; walk_at "it"; walk_at "hds"; exact trivial; walk_at "side"; walk_at "turn1")
  | (apply en_lc1; walk_at "it"; walk_at "hds"; exact trivial; walk_at "side"; walk_at "turn1")
  | (apply en_lcI; walk_at "it"; walk_at "hds"; exact trivial; walk_at "side"; walk_at "turn2")
  | (apply en_lcS; walk_at "it"; walk_at "hds"; exact trivial; walk_at "side"; walk_at "turn2")
  | (apply en_lc; walk_at "it"; walk_at "hds"; exact trivial; walk_at "side"; walk_at "turn2"))
local macro_rules | `(tactic| walk_at "ev") => `(tactic| first
  | exact ev_int | exact ev_str | exact ev_bl | exact ev_non | exact ev_ty | exact ev_adr | exact ev_var rfl
  | (apply ev_op; walk_at "ev"; walk_at "ev"; walk_at "r2")
  | (apply ev_ixW; rfl; walk_at "ev"; rfl; walk_at "ix")
  | (apply ev_un; walk_at "ev"; exact d_uNeg)
  | (apply ev_cb; walk_at "ea"; walk_at "ra")
  | (apply ev_tup; walk_at "ea"; walk_at "side")
  | (apply ev_call; walk_at "ea"; walk_at "R")
  | (apply ev_meth; walk_at "ev"; decide; walk_at "ea"; walk_at "R")
  | (apply ev_prop; walk_at "ev"; walk_at "R")
  | (apply ev_fldS; walk_at "ev"; rfl; assumption; assumption)
  | (apply ev_eqE; walk_at "ev") | (apply ev_neE; walk_at "ev")
  | (apply ev_fz; walk_at "lc")
  | (apply ev_lst; walk_at "ea"; walk_at "side")
  | (apply ev_andV; walk_at "ev"; (intro h1; walk_at "ev"))
  | (apply ev_orV; walk_at "ev"; (intro h1; walk_at "ev"))
  | (apply ev_notV; walk_at "ev")
  | (apply ev_chain; walk_at "ev"; walk_at "ev"; walk_at "r2"; (intro h1; apply And.intro; walk_at "ev"; walk_at "r2"))
  | (apply ev_slL; walk_at "ev"; walk_at "eo"; walk_at "eo")
  | (apply ev_slT; walk_at "ev"; walk_at "eo"; walk_at "eo")
  | (apply ev_slS; walk_at "ev"; walk_at "eo"; walk_at "eo"; walk_at "side")
  | (apply ev_indexI; walk_at "ev"; walk_at "ev"; walk_at "side"))
local macro_rules | `(tactic| walk_at "et") => `(tactic| first
  | (apply et_test; walk_at "ev") | (apply et_B; walk_at "ev") | (apply et_not; walk_at "et")
  | (apply et_and; walk_at "et"; (intro h1; walk_at "et")) | (apply et_or; walk_at "et"; (intro h1; walk_at "et")) | exact et_yes)
local macro_rules | `(tactic| walk_at "nrm") => `(tactic| (try simp only [List.set_cons_succ, List.set_cons_zero]))
local macro_rules | `(tactic| walk_at "asg") => `(tactic| (apply q_asg; walk_at "ev"; walk_at "nrm"))
local macro_rules | `(tactic| walk_at "drop") => `(tactic| (apply q_drop; walk_at "ev"))
local macro_rules | `(tactic| walk_at "tup") => `(tactic| (apply q_tupU; walk_at "ev"; walk_at "gs"; rfl; walk_at "nrm"))
local macro_rules | `(tactic| walk_at "ret") => `(tactic| (apply st_ret; walk_at "ev"))
local macro_rules | `(tactic| walk_at "bf") => `(tactic| focus (first | rfl | (simp; done) | (simp; omega) | (simp [*]; done) | (simp [*]; omega)))
local macro_rules | `(tactic| walk_at "no") => `(tactic| (apply q_no; walk_at "et"; walk_at "bf"))
local macro_rules | `(tactic| walk_at "chk") => `(tactic| (apply st_chk; walk_at "et"; walk_at "bf"; rfl))
local macro_rules | `(tactic| walk_at "unl") => `(tactic| (apply q_lstU; walk_at "ev"; walk_at "gs"; rfl; walk_at "nrm"))
local macro_rules | `(tactic| walk_at "R") => `(tactic| exact r_is_integer)
local macro_rules | `(tactic| walk_at "R") => `(tactic| exact r_is_between)
local macro_rules | `(tactic| walk_at "R") => `(tactic| exact r_is_day)
local macro_rules | `(tactic| walk_at "R") => `(tactic| exact r_check_year (by walk_at "side"))
local macro_rules | `(tactic| walk_at "R") => `(tactic| exact r_check_number (by walk_at "side"))
local macro_rules | `(tactic| walk_at "R") => `(tactic| exact r_check_life (by walk_at "side"))
local macro_rules | `(tactic| walk_at "R") => `(tactic| exact r_are_plants_of (by walk_at "side") (by walk_at "side"))
local macro_rules | `(tactic| walk_at "R") => `(tactic| exact r_check_plants (by walk_at "side") (by walk_at "side"))
local macro_rules | `(tactic| walk_at "R") => `(tactic| exact r_bearing_by (by walk_at "side") (by walk_at "side"))
local macro_rules | `(tactic| walk_at "R") => `(tactic| exact r_bearing (by walk_at "side") (by walk_at "side") (by walk_at "side"))
local macro_rules | `(tactic| walk_at "R") => `(tactic| exact r_bearings_of (by walk_at "side") (by walk_at "side"))
local macro_rules | `(tactic| walk_at "R") => `(tactic| exact r_least_bearing (by walk_at "side") (by walk_at "side"))
local macro_rules | `(tactic| walk_at "R") => `(tactic| exact r_most_bearing (by walk_at "side") (by walk_at "side"))
local macro_rules | `(tactic| walk_at "R") => `(tactic| exact r_even_plants (by walk_at "side") (by walk_at "side"))
local macro_rules | `(tactic| walk_at "R") => `(tactic| exact r_most_always (by walk_at "side") (by walk_at "side"))
local macro_rules | `(tactic| walk_at "R") => `(tactic| exact r_best_plants (by walk_at "side") (by walk_at "side"))
local macro_rules | `(tactic| walk_at "R") => `(tactic| exact r_common (by walk_at "side") (by walk_at "side"))
local macro_rules | `(tactic| walk_at "R") => `(tactic| exact r_reduced (by walk_at "side") (by walk_at "side"))
local macro_rules | `(tactic| walk_at "R") => `(tactic| exact r_is_name (by walk_at "side"))
local macro_rules | `(tactic| walk_at "R") => `(tactic| exact r_read_integer (by walk_at "side"))
local macro_rules | `(tactic| walk_at "R") => `(tactic| exact r_is_pattern (by walk_at "side"))
local macro_rules | `(tactic| walk_at "R") => `(tactic| exact r_palm_in (by walk_at "side"))
/-! the reader of groves -/
structure RdrK (K : PySem.W.Frag) (C : Addr) : Prop where
  c : Cls K C
  h : NoAttr K C ("own_head" : Str)
  p : NoAttr K C ("own_palms" : Str)
  m : NoAttr K C ("own_males" : Str)
structure RSt where
  hd : Option (Int × Int)
  ks : List Key
  ds : List D
  mks : List Key
  mds : List D
def hdD : Option (Int × Int) → D
  | none => .non
  | some (a, b) => .tup [.int a, .int b]
abbrev rns : List Str := [("own_head" : Str), ("own_palms" : Str), ("own_males" : Str)]
abbrev rdD (C : Addr) (s : RSt) : D := .obj C rns [hdD s.hd, .dic s.ks s.ds, .dic s.mks s.mds]
structure RdAt (K : PySem.W.Frag) (C : Addr) (F H : Hp) (r pd md : Addr) (s : RSt) : Prop where
  obj : ∃ dx hv, H r = some (.ins C dx [(("own_head" : Str), hv), (("own_palms" : Str), .ref pd), (("own_males" : Str), .ref md)]) ∧ Rep K F (hdD s.hd) hv
  pal : ∃ vs, H pd = some (.dK (s.ks.zip vs)) ∧ s.ks.length = vs.length ∧ RepL K F s.ds vs
  mal : ∃ vs, H md = some (.dK (s.mks.zip vs)) ∧ s.mks.length = vs.length ∧ RepL K F s.mds vs
  fr : F r = none
  fp : F pd = none
  fm : F md = none
  rp : r ≠ pd
  rm : r ≠ md
  pm : pd ≠ md
section
variable {C : Addr} {F F' H H' : Hp} {r pd md : Addr} {s : RSt}
theorem RdAt.ks_len (a : RdAt K C F H r pd md s) : s.ks.length = s.ds.length := by
  obtain ⟨vs, _, h1, h2⟩ := a.pal
  rw [h1, h2.len]
theorem RdAt.mks_len (a : RdAt K C F H r pd md s) : s.mks.length = s.mds.length := by
  obtain ⟨vs, _, h1, h2⟩ := a.mal
  rw [h1, h2.len]
theorem RdAt.mono (a : RdAt K C F H r pd md s) (e : Ex H H') (g : Gr H F F') : RdAt K C F' H' r pd md s := by
  obtain ⟨dx, hv, o1, o2⟩ := a.obj
  obtain ⟨vs, p1, p2, p3⟩ := a.pal
  obtain ⟨ws, m1, m2, m3⟩ := a.mal
  exact ⟨⟨dx, hv, e _ _ o1, o2.mono g.f⟩, ⟨vs, e _ _ p1, p2, p3.mono g.f⟩, ⟨ws, e _ _ m1, m2, m3.mono g.f⟩, g.no _ a.fr (by rw [o1]; simp), g.no _ a.fp (by rw [p1]; simp), g.no _ a.fm (by rw [m1]; simp), a.rp, a.rm, a.pm⟩
/-- the reader, seen as a value -/
theorem RdAt.view2 (a : RdAt K C F H r pd md s) (e : Ex F H) : ∃ F1, Ex F F1 ∧ Ex F1 H ∧ Rep K F1 (rdD C s) (.ref r) ∧ (∀ q, q ≠ r → q ≠ pd → q ≠ md → F1 q = F q) ∧
    ∃ dx hv, H r = some (.ins C dx [(("own_head" : Str), hv), (("own_palms" : Str), .ref pd), (("own_males" : Str), .ref md)]) ∧ RepL K F1 [hdD s.hd, .dic s.ks s.ds, .dic s.mks s.mds] [hv, .ref pd, .ref md] := by
  obtain ⟨dx, hv, o1, o2⟩ := a.obj
  obtain ⟨vs, p1, p2, p3⟩ := a.pal
  obtain ⟨ws, m1, m2, m3⟩ := a.mal
  have e1 : Ex F (upd F md (.dK (s.mks.zip ws))) := Evl.Ex.new a.fm
  have e2 : Ex (upd F md (.dK (s.mks.zip ws))) (upd (upd F md (.dK (s.mks.zip ws))) pd (.dK (s.ks.zip vs))) := Evl.Ex.new (by rw [upd_ne a.pm]; exact a.fp)
  have e3 : Ex (upd (upd F md (.dK (s.mks.zip ws))) pd (.dK (s.ks.zip vs))) (upd (upd (upd F md (.dK (s.mks.zip ws))) pd (.dK (s.ks.zip vs))) r (.ins C dx [(("own_head" : Str), hv), (("own_palms" : Str), .ref pd), (("own_males" : Str), .ref md)])) := Evl.Ex.new (by rw [upd_ne a.rp, upd_ne a.rm]; exact a.fr)
  have rr : RepL K (upd (upd (upd F md (.dK (s.mks.zip ws))) pd (.dK (s.ks.zip vs))) r (.ins C dx [(("own_head" : Str), hv), (("own_palms" : Str), .ref pd), (("own_males" : Str), .ref md)])) [hdD s.hd, .dic s.ks s.ds, .dic s.mks s.mds] [hv, .ref pd, .ref md] := by
    refine ⟨_, _, rfl, o2.mono (e1.trans (e2.trans e3)), _, _, rfl, ⟨pd, vs, rfl, .inl ?_, p2, p3.mono (e1.trans (e2.trans e3))⟩, _, _, rfl, ⟨md, ws, rfl, .inl ?_, m2, m3.mono (e1.trans (e2.trans e3))⟩, rfl⟩
    · rw [upd_ne a.rp.symm, upd_same]
    · rw [upd_ne a.rm.symm, upd_ne a.pm.symm, upd_same]
  exact ⟨upd (upd (upd F md (.dK (s.mks.zip ws))) pd (.dK (s.ks.zip vs))) r (.ins C dx [(("own_head" : Str), hv), (("own_palms" : Str), .ref pd), (("own_males" : Str), .ref md)]), e1.trans (e2.trans e3), Dl.Ex.put (Dl.Ex.put (Dl.Ex.put e m1) p1) o1,
    ⟨r, dx, [hv, .ref pd, .ref md], rfl, by rw [upd_same]; rfl, rfl, rr⟩, fun q h1 h2 h3 => by rw [upd_ne h1, upd_ne h2, upd_ne h3], dx, hv, o1, rr⟩
theorem RdAt.view (a : RdAt K C F H r pd md s) (e : Ex F H) : ∃ F1, Ex F F1 ∧ Ex F1 H ∧ Rep K F1 (rdD C s) (.ref r) ∧ ∀ q, q ≠ r → q ≠ pd → q ≠ md → F1 q = F q :=
  let ⟨F1, h1, h2, h3, h4, _⟩ := a.view2 e
  ⟨F1, h1, h2, h3, h4⟩
end
/-! is_new -/
def R_is_new (C : Addr) (ds : List D) (d : D) : Prop := ∃ (s : RSt) (x : Str), NmOk x ∧ s.ks.length = s.ds.length ∧ s.mks.length = s.mds.length ∧ dlk s.ks s.ds (Sum.inr x) = none ∧ dlk s.mks s.mds (Sum.inr x) = none ∧ ds = [rdD C s, .str x] ∧ d = .bl true
theorem r_is_new {C : Addr} {s : RSt} {x : Str} (h1 : NmOk x) (h2 : s.ks.length = s.ds.length) (h3 : s.mks.length = s.mds.length) (h4 : dlk s.ks s.ds (Sum.inr x) = none) (h5 : dlk s.mks s.mds (Sum.inr x) = none) : R_is_new C [rdD C s, .str x] (.bl true) := ⟨s, x, h1, h2, h3, h4, h5, rfl, rfl⟩
theorem p_is_new {C : Addr} (k : RdrK K C) : ∀ ds d, R_is_new C ds d → St K (t_GroveReader_is_new K (spD K R_is_name)) (ds.map Slot.val ++ List.replicate (N_GroveReader_is_new.length - ds.length) .no) (Ret d) := by
  rintro _ _ ⟨s, x, h1, h2, h3, h4, h5, rfl, rfl⟩
  obtain ⟨kc, kh, kp, km⟩ := k
  show St K _ [.val (rdD C s), .val (.str x)] _
  walk_at "ret"
  show D.bl _ = D.bl _
  rw [h4, h5]
  rfl
local macro_rules | `(tactic| walk_at "R") => `(tactic| exact r_is_new (by walk_at "side") (by walk_at "side") (by walk_at "side") (by walk_at "side") (by walk_at "side"))
/-! __init__ -/
def sp_init (K : PySem.W.Frag) (C : Addr) : Sp := fun vs H Q _ => ∃ F r dx, vs = [.ref r] ∧ Ex F H ∧ F r = none ∧ H r = some (.ins C dx []) ∧
  ∀ pd md H', RdAt K C F H' r pd md ⟨none, [], [], [], []⟩ → Ex F H' → H pd = none → H md = none → (∀ a u, a ≠ r → H a = some u → H' a = some u) → Q .non H'
theorem sp_init_len {C : Addr} : ∀ (vs : List V) (H : Hp) (Q : VK) (E : XK), sp_init K C vs H Q E → vs.length = 1 := by
  rintro _ _ _ _ ⟨F, r, dx, rfl, _⟩; rfl
theorem p_init {C : Addr} (k : RdrK K C) : ∀ (vs : List V) (H : Hp) (Q : VK) (E : XK), sp_init K C vs H Q E → t_GroveReader___init__ K { nx := fun _ H' => Q .non H', rt := Q } (L2.start N_GroveReader___init__ vs) H := by
  rintro _ H Q E ⟨F, r, dx, rfl, e, fr, hr, q⟩
  refine ⟨_, rfl, r, C, dx, _, rfl, hr, k.c, k.h, by exact Nat.le_of_ble_eq_true rfl, ?_⟩
  intro pd hpd
  have hpr : pd ≠ r := fun z => by rw [z, upd_same] at hpd; cases hpd
  refine ⟨_, rfl, r, C, dx, _, rfl, by rw [upd_ne (Ne.symm hpr), upd_same], k.c, k.p, by exact Nat.le_of_ble_eq_true rfl, ?_⟩
  intro md hmd
  have hmr : md ≠ r := fun z => by rw [z, upd_same] at hmd; cases hmd
  have hmp : md ≠ pd := fun z => by rw [z, upd_ne hpr, upd_same] at hmd; cases hmd
  refine ⟨_, rfl, r, C, dx, _, rfl, by rw [upd_ne (Ne.symm hmr), upd_same], k.c, k.m, by exact Nat.le_of_ble_eq_true rfl, ?_⟩
  have hpd0 : H pd = none := by rw [upd_ne hpr] at hpd; exact hpd
  have hmd0 : H md = none := by rw [upd_ne hmr, upd_ne hmp, upd_ne hmr] at hmd; exact hmd
  refine q pd md _ ⟨⟨dx, .non, by rw [upd_same]; rfl, rfl⟩, ⟨[], ?_, rfl, rfl⟩, ⟨[], ?_, rfl, rfl⟩, fr, fresh_back e hpd0, fresh_back e hmd0, Ne.symm hpr, Ne.symm hmr, Ne.symm hmp⟩ ?_ hpd0 hmd0 ?_
  · rw [upd_ne hpr, upd_ne (Ne.symm hmp), upd_ne hpr, upd_same]; rfl
  · rw [upd_ne hmr, upd_same]; rfl
  · have fne : ∀ a u, F a = some u → a ≠ r := fun a u h z => by rw [z, fr] at h; cases h
    intro a u h
    have h1 := fne a u h
    have h2 : a ≠ pd := fun z => by rw [z, fresh_back e hpd0] at h; cases h
    have h3 : a ≠ md := fun z => by rw [z, fresh_back e hmd0] at h; cases h
    rw [upd_ne h1, upd_ne h3, upd_ne h1, upd_ne h2, upd_ne h1]; exact e a u h
  · intro a u h1 h
    have h2 : a ≠ pd := fun z => by rw [z, hpd0] at h; cases h
    have h3 : a ≠ md := fun z => by rw [z, hmd0] at h; cases h
    rw [upd_ne h1, upd_ne h3, upd_ne h1, upd_ne h2, upd_ne h1]; exact h
/-! takes_head -/
/-- the reader turns from s to s'; all else that stood stays -/
def Goes (K : PySem.W.Frag) (C : Addr) (F H : Hp) (r pd md : Addr) (s' : RSt) (Q : VK) : Prop := ∀ F' H', RdAt K C F' H' r pd md s' → Gr H F F' → Ex F' H' → (∀ a u, a ≠ r → a ≠ pd → a ≠ md → H a = some u → H' a = some u) → Q (.bl true) H'
def sp_head (K : PySem.W.Frag) (C : Addr) : Sp := fun vs H Q _ => ∃ F r pd md s v a b, vs = [.ref r, v] ∧ Ex F H ∧ RdAt K C F H r pd md s ∧ s.hd = none ∧ Rep K F (.lst [.int a, .int b]) v ∧ (1 ≤ a ∧ a ≤ 3) ∧ (1 ≤ b ∧ b ≤ 6) ∧ Goes K C F H r pd md { s with hd := some (a, b) } Q
theorem sp_head_len {C : Addr} : ∀ (vs : List V) (H : Hp) (Q : VK) (E : XK), sp_head K C vs H Q E → vs.length = 2 := by
  rintro _ _ _ _ ⟨F, r, pd, md, s, v, a, b, rfl, _⟩; rfl
theorem Gr.bk {B F F1 F2 : Hp} {r pd md : Addr} (g : Gr B F F1) : Gr B F F1 := g
theorem p_head {C : Addr} (k : RdrK K C) : ∀ (vs : List V) (H : Hp) (Q : VK) (E : XK), sp_head K C vs H Q E → t_GroveReader_takes_head K (spD K R_is_between) { nx := fun _ H' => Q .non H', rt := Q } (L2.start N_GroveReader_takes_head vs) H := by
  rintro _ H Q E ⟨F, r, pd, md, s, v, a, b, rfl, e, ra, hs, rv, ha, hb, q⟩
  obtain ⟨kc, kh, kp, km⟩ := k
  have w0 := w_start (K := K) (N := N_GroveReader_takes_head) (ds := [.adr r, .lst [.int a, .int b]]) e ⟨_, _, rfl, rfl, _, _, rfl, rv, rfl⟩
  have n0 : NoOwn ([Slot.val (.adr r), .val (.lst [.int a, .int b])]) := rfl
  obtain ⟨F1, f1, f2, f3, f4⟩ := ra.view e
  refine w_noP (i := 0) (o := rdD C s) (x := false) w0 n0 f1 f2 ⟨_, rfl, f3⟩ (et_is (by
    show EvT K _ [.val (rdD C s), .val (.lst [.int a, .int b])] _ _
    unfold rdD
    rw [hs]
    walk_at "et") (by rfl)) rfl fun H1 w1 e1 => ?_
  refine w_no (x := false) (env1 := [.val (.adr r), .val (.lst [.int a, .int b])]) w1 (et_is (by walk_at "et") (by simp; omega)) n0 rfl fun F2 H2 w2 e2 g2 => ?_
  refine w_ev (d := .tup [.int a, .int b]) (env1 := [.val (.adr r), .val (.lst [.int a, .int b])]) w2 (by walk_at "ev") n0 fun y F3 H3 w3 e3 g3 ry => ?_
  refine ⟨_, rfl, ?_⟩
  have r3 := (ra.mono e1 .refl).mono (e2.trans e3) (g2.trans (Gr.weak e2 g3))
  obtain ⟨dx, hv, o1, o2⟩ := r3.obj
  refine ⟨r, C, dx, _, rfl, o1, kc, kh, by exact Nat.le_of_ble_eq_true rfl, ?_⟩
  obtain ⟨vs, p1, p2, p3⟩ := r3.pal
  obtain ⟨ws, m1, m2, m3⟩ := r3.mal
  refine q F3 _ ⟨⟨dx, y, by rw [upd_same]; rfl, ry⟩, ⟨vs, by rw [upd_ne r3.rp.symm]; exact p1, p2, p3⟩, ⟨ws, by rw [upd_ne r3.rm.symm]; exact m1, m2, m3⟩, r3.fr, r3.fp, r3.fm, r3.rp, r3.rm, r3.pm⟩ (Gr.weak e1 (g2.trans (Gr.weak e2 g3))) (w3.fh.mut r3.fr) fun c u h1 h2 h3 h => by
    rw [upd_ne h1]; exact e3 _ _ (e2 _ _ (e1 _ _ h))
end K83

set_option Elab.async false
set_option linter.all false
set_option maxRecDepth 100000
set_option maxHeartbeats 4000000
set_option autoImplicit false
namespace K83
open PySem L2 Dl StX
open Evl (Ex fresh_back ex_rd)
variable {K : PySem.W.Frag}
local macro_rules | `(tactic| walk_at "side") => `(tactic| focus (first | assumption | rfl | exact Nat.le_of_ble_eq_true rfl | omega | decide | (simp; done) | (simp; omega)))
local macro_rules | `(tactic| walk_at "ix") => `(tactic| first | rfl | assumption | exact atI_nat (by focus (first | rfl | assumption | (simp; done))))
local macro_rules | `(tactic| walk_at "log") => `(tactic| first | assumption | exact mul_sm (by unfold Sm; omega) (by unfold Sm; omega) | exact log_sm2 (by unfold Sm; omega) | exact log_sm (by unfold Sm; omega) | decide)
local macro_rules | `(tactic| walk_at "R") => `(tactic| fail "no R")
local macro_rules | `(tactic| walk_at "r2") => `(tactic| first
  | exact d_add | exact d_sub | exact d_lt | exact d_le | exact d_gt | exact d_ge | exact d_eqI | exact d_neI | exact d_eqS | exact d_neS | exact d_eqB | exact d_neB
  | exact d_isN | exact d_ntN | exact d_isB | exact d_ntB
  | (apply d_mod; walk_at "side") | (apply d_div; walk_at "side"; walk_at "log") | (apply d_mul; walk_at "log") | (apply d_pow; walk_at "side"; walk_at "log")
  | exact d_inS | exact d_niS | exact d_inST | exact d_niST | exact d_inG | exact d_niG
  | (apply d_ixL; walk_at "ix") | (apply d_ixT; walk_at "ix") | (apply d_ixR; walk_at "ix") | (apply d_ixS; walk_at "side"; walk_at "ix") | (apply d_ixDs; walk_at "ix")
  | (apply d_inD; walk_at "side") | (apply d_niD; walk_at "side")
  | (apply d_addS; walk_at "side") | (apply d_addL; walk_at "side") | (apply d_addT; walk_at "side"))
local macro_rules | `(tactic| walk_at "ra") => `(tactic| first
  | exact d_lenL | exact d_lenT | (apply d_lenS; walk_at "side") | exact d_lenR | exact d_lenD | exact d_sum | exact d_all | exact d_any
  | (apply d_max; walk_at "side") | (apply d_min; walk_at "side") | exact d_max2 | exact d_min2 | exact d_abs | exact d_int | exact d_intB
  | (apply d_intS; walk_at "side"; walk_at "side") | (apply d_str; walk_at "log") | exact d_listL | exact d_listT | exact d_listD | exact d_tupL | exact d_sorted
  | (apply d_isiC; assumption)
  | exact d_isiTy (b := true) rfl (by decide +kernel) | exact d_isiTy (b := false) rfl (by decide +kernel))
local macro_rules | `(tactic| walk_at "gs") => `(tactic| first
  | exact gs_nil | (apply gs_cons; walk_at "gd"; walk_at "gs"))
local macro_rules | `(tactic| walk_at "gd") => `(tactic| first
  | exact gd_name (by decide) | (apply gd_tupU; walk_at "gs"; rfl) | (apply gd_lstU; walk_at "gs"; rfl))
local macro_rules | `(tactic| walk_at "ea") => `(tactic| first
  | exact ea_nil | (apply ea_cons; walk_at "ev"; walk_at "ea") | (apply ea_starT; walk_at "ev"; walk_at "ea") | (apply ea_starL; walk_at "ev"; walk_at "ea"))
local macro_rules | `(tactic| walk_at "eo") => `(tactic| first
  | exact eo_none | (apply eo_some; walk_at "ev"))
local macro_rules | `(tactic| walk_at "it") => `(tactic| first
  | (apply it_r1; walk_at "ea"; walk_at "side"; walk_at "side")
  | (apply it_r2; walk_at "ea"; walk_at "side"; walk_at "side"; walk_at "side"; walk_at "side")
  | (apply it_en; walk_at "ea"; first | exact Or.inl rfl | exact Or.inr rfl)
  | (apply it_zp; walk_at "ea"; (first | exact Or.inl rfl | exact Or.inr rfl); (first | exact Or.inl rfl | exact Or.inr rfl))
  | (apply it_anyL; walk_at "ev") | (apply it_anyT; walk_at "ev") | (apply it_anyS; walk_at "ev"))
local macro_rules | `(tactic| walk_at "hds") => `(tactic| first | rfl | exact (List.map_id _).symm)
local macro_rules | `(tactic| walk_at "turn1") => `(tactic| (intro a ha; apply ex2; walk_at "gd"; walk_at "ev"))
local macro_rules | `(tactic| walk_at "turn2") => `(tactic| (intro a ha; apply ex3; walk_at "gd"; walk_at "et"; (intro hb; walk_at "ev")))
local macro_rules | `(tactic| walk_at "lc") => `(tactic| first
  | (apply en_lc1I; walk_at "it"; walk_at "hds"; exact trivial; walk_at "side"; walk_at "turn1")
  | (apply en_lc1B; walk_at "it"; walk_at "hds"; exact trivial; walk_at "side"; walk_at "turn1")
  | (apply en_lc1S; walk_at "it"; walk_at "hds"; exact trivial; walk_at "side"; walk_at "turn1")
  | (apply en_lc1; walk_at "it"; walk_at "hds"; exact trivial; walk_at "side"; walk_at "turn1")
  | (apply en_lcI; walk_at "it"; walk_at "hds"; exact trivial; walk_at "side"; walk_at "turn2")
  | (apply en_lcS; walk_at "it"; walk_at "hds"; exact trivial; walk_at "side"; walk_at "turn2")
  | (apply en_lc; walk_at "it"; walk_at "hds"; exact trivial; walk_at "side"; walk_at "turn2"))
local macro_rules | `(tactic| walk_at "ev") => `(tactic| first
  | exact ev_int | exact ev_str | exact ev_bl | exact ev_non | exact ev_ty | exact ev_adr | exact ev_var rfl
  | (apply ev_op; walk_at "ev"; walk_at "ev"; walk_at "r2")
  | (apply ev_ixW; rfl; walk_at "ev"; rfl; walk_at "ix")
  | (apply ev_un; walk_at "ev"; exact d_uNeg)
  | (apply ev_cb; walk_at "ea"; walk_at "ra")
  | (apply ev_tup; walk_at "ea"; walk_at "side")
  | (apply ev_call; walk_at "ea"; walk_at "R")
  | (apply ev_meth; walk_at "ev"; decide; walk_at "ea"; walk_at "R")
  | (apply ev_prop; walk_at "ev"; walk_at "R")
  | (apply ev_fldS; walk_at "ev"; rfl; assumption; assumption)
  | (apply ev_eqE; walk_at "ev") | (apply ev_neE; walk_at "ev")
  | (apply ev_fz; walk_at "lc")
  | (apply ev_lst; walk_at "ea"; walk_at "side")
  | (apply ev_andV; walk_at "ev"; (intro h1; walk_at "ev"))
  | (apply ev_orV; walk_at "ev"; (intro h1; walk_at "ev"))
  | (apply ev_notV; walk_at "ev")
  | (apply ev_chain; walk_at "ev"; walk_at "ev"; walk_at "r2"; (intro h1; apply And.intro; walk_at "ev"; walk_at "r2"))
  | (apply ev_slL; walk_at "ev"; walk_at "eo"; walk_at "eo")
  | (apply ev_slT; walk_at "ev"; walk_at "eo"; walk_at "eo")
  | (apply ev_slS; walk_at "ev"; walk_at "eo"; walk_at "eo"; walk_at "side")
  | (apply ev_indexI; walk_at "ev"; walk_at "ev"; walk_at "side"))
local macro_rules | `(tactic| walk_at "et") => `(tactic| first
  | (apply et_test; walk_at "ev") | (apply et_B; walk_at "ev") | (apply et_not; walk_at "et")
  | (apply et_and; walk_at "et"; (intro h1; walk_at "et")) | (apply et_or; walk_at "et"; (intro h1; walk_at "et")) | exact et_yes)
local macro_rules | `(tactic| walk_at "nrm") => `(tactic| (try simp only [List.set_cons_succ, List.set_cons_zero]))
local macro_rules | `(tactic| walk_at "asg") => `(tactic| (apply q_asg; walk_at "ev"; walk_at "nrm"))
local macro_rules | `(tactic| walk_at "drop") => `(tactic| (apply q_drop; walk_at "ev"))
local macro_rules | `(tactic| walk_at "tup") => `(tactic| (apply q_tupU; walk_at "ev"; walk_at "gs"; rfl; walk_at "nrm"))
local macro_rules | `(tactic| walk_at "ret") => `(tactic| (apply st_ret; walk_at "ev"))
local macro_rules | `(tactic| walk_at "bf") => `(tactic| focus (first | rfl | (simp; done) | (simp; omega) | (simp [*]; done) | (simp [*]; omega)))
local macro_rules | `(tactic| walk_at "no") => `(tactic| (apply q_no; walk_at "et"; walk_at "bf"))
local macro_rules | `(tactic| walk_at "chk") => `(tactic| (apply st_chk; walk_at "et"; walk_at "bf"; rfl))
local macro_rules | `(tactic| walk_at "unl") => `(tactic| (apply q_lstU; walk_at "ev"; walk_at "gs"; rfl; walk_at "nrm"))
local macro_rules | `(tactic| walk_at "R") => `(tactic| exact r_is_integer)
local macro_rules | `(tactic| walk_at "R") => `(tactic| exact r_is_between)
local macro_rules | `(tactic| walk_at "R") => `(tactic| exact r_is_day)
local macro_rules | `(tactic| walk_at "R") => `(tactic| exact r_check_year (by walk_at "side"))
local macro_rules | `(tactic| walk_at "R") => `(tactic| exact r_check_number (by walk_at "side"))
local macro_rules | `(tactic| walk_at "R") => `(tactic| exact r_check_life (by walk_at "side"))
local macro_rules | `(tactic| walk_at "R") => `(tactic| exact r_are_plants_of (by walk_at "side") (by walk_at "side"))
local macro_rules | `(tactic| walk_at "R") => `(tactic| exact r_check_plants (by walk_at "side") (by walk_at "side"))
local macro_rules | `(tactic| walk_at "R") => `(tactic| exact r_bearing_by (by walk_at "side") (by walk_at "side"))
local macro_rules | `(tactic| walk_at "R") => `(tactic| exact r_bearing (by walk_at "side") (by walk_at "side") (by walk_at "side"))
local macro_rules | `(tactic| walk_at "R") => `(tactic| exact r_bearings_of (by walk_at "side") (by walk_at "side"))
local macro_rules | `(tactic| walk_at "R") => `(tactic| exact r_least_bearing (by walk_at "side") (by walk_at "side"))
local macro_rules | `(tactic| walk_at "R") => `(tactic| exact r_most_bearing (by walk_at "side") (by walk_at "side"))
local macro_rules | `(tactic| walk_at "R") => `(tactic| exact r_even_plants (by walk_at "side") (by walk_at "side"))
local macro_rules | `(tactic| walk_at "R") => `(tactic| exact r_most_always (by walk_at "side") (by walk_at "side"))
local macro_rules | `(tactic| walk_at "R") => `(tactic| exact r_best_plants (by walk_at "side") (by walk_at "side"))
local macro_rules | `(tactic| walk_at "R") => `(tactic| exact r_common (by walk_at "side") (by walk_at "side"))
local macro_rules | `(tactic| walk_at "R") => `(tactic| exact r_reduced (by walk_at "side") (by walk_at "side"))
local macro_rules | `(tactic| walk_at "R") => `(tactic| exact r_is_name (by walk_at "side"))
local macro_rules | `(tactic| walk_at "R") => `(tactic| exact r_read_integer (by walk_at "side"))
local macro_rules | `(tactic| walk_at "R") => `(tactic| exact r_is_pattern (by walk_at "side"))
local macro_rules | `(tactic| walk_at "R") => `(tactic| exact r_palm_in (by walk_at "side"))
local macro_rules | `(tactic| walk_at "R") => `(tactic| exact r_is_new (by walk_at "side") (by walk_at "side") (by walk_at "side") (by walk_at "side") (by walk_at "side"))
/-! takes -/
inductive Takes (s : RSt) (line : Str) : RSt → Prop
  | head {w1 w2 : Str} {a b : Int} (sp : Txt.split line " " = [("grove" : Str), w1, w2]) (h1 : RdI w1 a) (h2 : RdI w2 b) (ha : 1 ≤ a ∧ a ≤ 3) (hb : 1 ≤ b ∧ b ≤ 6) (hn : s.hd = none) : Takes s line { s with hd := some (a, b) }
  | palm {nm : Str} {ws : List Str} {e o t : Int} {p : Str} {n : Int} (sp : Txt.split line " " = ("palm" : Str) :: nm :: ws) (h : PalmW ws e o t p n) (hd : ∃ ab, s.hd = some ab) (hn : NmOk nm) (k1 : dlk s.ks s.ds (Sum.inr nm) = none)
      (k2 : s.mks = []) (k3 : s.ks.length < 12) : Takes s line { s with ks := s.ks ++ [Sum.inr nm], ds := s.ds ++ [.tup [.int e, .int o, .int t, .str p, .int n]] }
def sp_takes (K : PySem.W.Frag) (C : Addr) : Sp := fun vs H Q _ => ∃ F r pd md s line s', vs = [.ref r, .str line] ∧ Ex F H ∧ RdAt K C F H r pd md s ∧ line.length ≤ 90000 ∧ Takes s line s' ∧ Goes K C F H r pd md s' Q
theorem sp_takes_len {C : Addr} : ∀ (vs : List V) (H : Hp) (Q : VK) (E : XK), sp_takes K C vs H Q E → vs.length = 2 := by
  rintro _ _ _ _ ⟨F, r, pd, md, s, line, s', rfl, _⟩; rfl
theorem zip_snoc {α β : Type} : ∀ {as : List α} {bs : List β} {a : α} {b : β}, as.length = bs.length → (as ++ [a]).zip (bs ++ [b]) = as.zip bs ++ [(a, b)]
  | [], [], _, _, _ => rfl
  | x :: as, y :: bs, a, b, h => by rw [List.cons_append, List.cons_append, List.zip_cons_cons, zip_snoc (by simpa using h)]; rfl
theorem putK_new {ks : List Key} {vs : List V} {k : Key} {v : V} (hl : ks.length = vs.length) (h : valV (ks.zip vs) k = none) : putK (ks.zip vs) k v = (ks ++ [k]).zip (vs ++ [v]) := by
  unfold putK
  rw [if_neg, zip_snoc hl]
  rw [valV_any, h]
  simp
theorem p_takes {C : Addr} {spm : Sp} (k : RdrK K C) : ∀ (vs : List V) (H : Hp) (Q : VK) (E : XK), sp_takes K C vs H Q E →
    t_GroveReader_takes K C (sp_head K C) (spD K R_read_integer) (spD K (R_is_new C)) (spD K R_palm_in) spm { nx := fun _ H' => Q .non H', rt := Q } (L2.start N_GroveReader_takes vs) H := by
  rintro _ H Q E ⟨F, r, pd, md, s, line, s', rfl, e, ra, hl, tk, q⟩
  obtain ⟨kc, kh, kp, km⟩ := k
  have w0 := w_start (K := K) (N := N_GroveReader_takes) (ds := [.adr r, .str line]) e ⟨_, _, rfl, rfl, _, _, rfl, rfl, rfl⟩
  refine w_asg (d := .lst ((Txt.split line " ").map .str)) (env1 := [.val (.adr r), .val (.str line), .no, .no, .no]) w0 (ev_split (by walk_at "ev") (by walk_at "ev") (by decide) hl) rfl rfl fun v F1 H1 w1 e1 g1 => ?_
  have r1 := ra.mono e1 g1
  cases tk with
  | head sp h1 h2 ha hb hn =>
    rename_i x1 x2 a b
    rw [sp] at w1
    have n0 : NoOwn ([Slot.val (.adr r), .val (.str line), .val (.lst [.str ("grove" : Str), .str x1, .str x2]), .no, .no]) := rfl
    refine w_yes (x := true) (env1 := [.val (.adr r), .val (.str line), .val (.lst [.str ("grove" : Str), .str x1, .str x2]), .no, .no]) w1 (et_is (by
      show EvT K _ [.val (.adr r), .val (.str line), .val (.lst [.str ("grove" : Str), .str x1, .str x2]), .no, .no] _ _
      walk_at "et") (by simp)) n0 rfl fun F2 H2 w2 e2 g2 => ?_
    have r2 := r1.mono e2 g2
    obtain ⟨dx, hv, o1, o2⟩ := r2.obj
    obtain ⟨y, hy, ry⟩ := w2.val 0 (.adr r) rfl
    have ry : y = .ref r := ry
    subst ry
    refine ⟨_, hy, r, dx, _, rfl, o1, by rfl, ?_⟩
    refine w_ea (ds := [.lst [.int a, .int b]]) (env1 := [.val (.adr r), .val (.str line), .val (.lst [.str ("grove" : Str), .str x1, .str x2]), .no, .no]) w2 (ea_cons (ev_is (ev_fz (en_lc1 [(x1, a), (x2, b)] (fun a => D.str a.1) (fun a => D.int a.2) (by walk_at "it") (by rfl) trivial (Nat.le_of_ble_eq_true rfl) (by
      intro a ha
      have hr : RdI a.1 a.2 := by
        simp at ha
        rcases ha with rfl | rfl <;> assumption
      apply ex2
      walk_at "gd"
      walk_at "ev"))) (by rfl)) ea_nil) n0 fun us F3 H3 w3 e3 g3 ru => ?_
    obtain ⟨u, us', rfl, ru1, ru2⟩ := ru
    have ru2 : us' = [] := ru2
    subst ru2
    have r3 := r2.mono e3 g3
    refine ⟨F3, r, pd, md, s, u, a, b, rfl, w3.fh, r3, hn, ru1, ha, hb, fun F' H' t1 t2 t3 t4 => q F' H' t1 ?_ t3 fun c z h1 h2 h3 h => t4 c z h1 h2 h3 (e3 _ _ (e2 _ _ (e1 _ _ h)))⟩
    exact g1.trans (Gr.weak e1 (g2.trans (Gr.weak e2 (g3.trans (Gr.weak e3 t2)))))
  | palm sp h hd hn k1 k2 k3 =>
    rename_i nm ws ee o t p n
    have hh := h
    obtain ⟨⟨x0, x1, x2, x4, rfl, _⟩, _⟩ := h
    obtain ⟨ab, hd⟩ := hd
    rw [sp] at w1
    have hkl := ra.ks_len
    have hml := ra.mks_len
    have hmd : s.mds = [] := by rw [k2] at hml; exact List.length_eq_zero_iff.mp hml.symm
    have hk2 : dlk s.mks s.mds (Sum.inr nm) = none := by rw [k2]; rfl
    have n0 : NoOwn ([Slot.val (.adr r), .val (.str line), .val (.lst [.str ("palm" : Str), .str nm, .str x0, .str x1, .str x2, .str p, .str x4]), .no, .no]) := rfl
    refine w_no (x := false) (env1 := [.val (.adr r), .val (.str line), .val (.lst [.str ("palm" : Str), .str nm, .str x0, .str x1, .str x2, .str p, .str x4]), .no, .no]) w1 (et_is (by
      show EvT K _ [.val (.adr r), .val (.str line), .val (.lst [.str ("palm" : Str), .str nm, .str x0, .str x1, .str x2, .str p, .str x4]), .no, .no] _ _
      walk_at "et") (by simp)) n0 rfl fun F2 H2 w2 e2 g2 => ?_
    have r2 := r1.mono e2 g2
    obtain ⟨F2v, f1, f2, f3, f4⟩ := r2.view w2.fh
    refine w_noP (i := 0) (o := rdD C s) (x := false) w2 n0 f1 f2 (by
      obtain ⟨y, h1, h2⟩ := w2.val 0 _ rfl
      exact ⟨y, h1, by rw [show y = .ref r from h2]; exact f3⟩) (et_is (by
      show EvT K _ [.val (rdD C s), .val (.str line), .val (.lst [.str ("palm" : Str), .str nm, .str x0, .str x1, .str x2, .str p, .str x4]), .no, .no] _ _
      unfold rdD
      walk_at "et") (by rw [hd]; rfl)) rfl fun H3 w3 e3 => ?_
    have r3 := r2.mono e3 .refl
    refine w_yes (x := true) (env1 := [.val (.adr r), .val (.str line), .val (.lst [.str ("palm" : Str), .str nm, .str x0, .str x1, .str x2, .str p, .str x4]), .no, .no]) w3 (et_is (by walk_at "et") (by simp)) n0 rfl fun F4 H4 w4 e4 g4 => ?_
    have r4 := r3.mono e4 g4
    have n1 : NoOwn ([Slot.val (.adr r), .val (.str line), .val (.lst [.str ("palm" : Str), .str nm, .str x0, .str x1, .str x2, .str p, .str x4]), .val (.tup [.int ee, .int o, .int t, .str p, .int n]), .no]) := rfl
    refine w_asg (d := .tup [.int ee, .int o, .int t, .str p, .int n]) (env1 := [.val (.adr r), .val (.str line), .val (.lst [.str ("palm" : Str), .str nm, .str x0, .str x1, .str x2, .str p, .str x4]), .no, .no]) w4 (ev_call (ea_cons (ev_is (by walk_at "ev") (by rfl)) ea_nil) (r_palm_in hh)) n0 rfl fun y F5 H5 w5 e5 g5 => ?_
    have r5 := r4.mono e5 g5
    obtain ⟨F5v, f1, f2, f3, f4⟩ := r5.view w5.fh
    refine w_noP (i := 0) (o := rdD C s) (x := false) w5 n1 f1 f2 (by
      obtain ⟨y, h1, h2⟩ := w5.val 0 _ rfl
      exact ⟨y, h1, by rw [show y = .ref r from h2]; exact f3⟩) (et_is (by
      show EvT K _ [.val (rdD C s), .val (.str line), .val (.lst [.str ("palm" : Str), .str nm, .str x0, .str x1, .str x2, .str p, .str x4]), .val (.tup [.int ee, .int o, .int t, .str p, .int n]), .no] _ _
      unfold rdD
      walk_at "et") (by
        rw [k2]
        simp [D.isN]
        omega)) rfl fun H6 w6 e6 => ?_
    have r6 := r5.mono e6 .refl
    -- self.own_palms[name] = found
    obtain ⟨fv, hf, rf⟩ := w6.val 3 (.tup [.int ee, .int o, .int t, .str p, .int n]) rfl
    obtain ⟨dx, hv, o1, o2⟩ := r6.obj
    obtain ⟨vs, p1, p2, p3⟩ := r6.pal
    obtain ⟨us, m1, m2, m3⟩ := r6.mal
    obtain ⟨y, hy, ry⟩ := w6.val 0 (.adr r) rfl
    have ry : y = .ref r := ry
    subst ry
    refine ⟨fv, hf, _, hy, r, C, dx, _, .ref pd, rfl, o1, kc, kp, by rfl, ?_⟩
    refine w_ev (d := .str nm) (env1 := [.val (.adr r), .val (.str line), .val (.lst [.str ("palm" : Str), .str nm, .str x0, .str x1, .str x2, .str p, .str x4]), .val (.tup [.int ee, .int o, .int t, .str p, .int n]), .no]) w6 (by walk_at "ev") n1 fun z F7 H7 w7 e7 g7 rz => ?_
    have rz : z = .str nm := rz
    subst rz
    have r7 := r6.mono e7 g7
    have hvk : valV (s.ks.zip vs) (Sum.inr nm) = none := zip_no p3 p2 k1
    have p1' := e7 _ _ p1
    have o1' := e7 _ _ o1
    have m1' := e7 _ _ m1
    refine .inr ⟨pd, _, rfl, DPut.k (k := Sum.inr nm) p1' (by rw [List.length_zip]; have : sizeLine = 9000000000000000000 ∨ 12 ≤ sizeLine := .inr (by decide); omega), ?_⟩
    rw [putK_new p2 hvk]
    have fd := rf.mono g7.f
    have hF : Ex F7 (upd H7 pd (.dK ((s.ks ++ [Sum.inr nm]).zip (vs ++ [fv])))) := w7.fh.mut r7.fp
    show Q _ _
    refine q F7 _ ⟨⟨dx, hv, by rw [upd_ne ra.rp]; exact o1', o2.mono g7.f⟩, ⟨vs ++ [fv], by rw [upd_same], by simp [p2], (p3.mono g7.f).snoc fd⟩, ⟨us, by rw [upd_ne ra.pm.symm]; exact m1', m2, m3.mono g7.f⟩, r7.fr, r7.fp, r7.fm, ra.rp, ra.rm, ra.pm⟩ ?_ hF fun c u h1 h2 h3 h => by
      rw [upd_ne h2]; exact e7 _ _ (e6 _ _ (e5 _ _ (e4 _ _ (e3 _ _ (e2 _ _ (e1 _ _ h))))))
    exact g1.trans (Gr.weak e1 (g2.trans (Gr.weak (e2.trans e3) (g4.trans (Gr.weak e4 (g5.trans (Gr.weak (e5.trans e6) g7)))))))
end K83

set_option Elab.async false
set_option linter.all false
set_option maxRecDepth 100000
set_option maxHeartbeats 400000
set_option autoImplicit false
namespace K83
open PySem L2 Dl StX
open Evl (Ex fresh_back ex_rd)
variable {K : PySem.W.Frag}
local macro_rules | `(tactic| walk_at "side") => `(tactic| focus (first | assumption | rfl | exact Nat.le_of_ble_eq_true rfl | omega | decide | (simp; done) | (simp; omega)))
local macro_rules | `(tactic| walk_at "ix") => `(tactic| first | rfl | assumption | exact atI_nat (by focus (first | rfl | assumption | (simp; done))))
local macro_rules | `(tactic| walk_at "log") => `(tactic| first | assumption | exact mul_sm (by unfold Sm; omega) (by unfold Sm; omega) | exact log_sm2 (by unfold Sm; omega) | exact log_sm (by unfold Sm; omega) | decide)
local macro_rules | `(tactic| walk_at "R") => `(tactic| fail "no R")
local macro_rules | `(tactic| walk_at "r2") => `(tactic| first
  | exact d_add | exact d_sub | exact d_lt | exact d_le | exact d_gt | exact d_ge | exact d_eqI | exact d_neI | exact d_eqS | exact d_neS | exact d_eqB | exact d_neB
  | exact d_isN | exact d_ntN | exact d_isB | exact d_ntB
  | (apply d_mod; walk_at "side") | (apply d_div; walk_at "side"; walk_at "log") | (apply d_mul; walk_at "log") | (apply d_pow; walk_at "side"; walk_at "log")
  | exact d_inS | exact d_niS | exact d_inST | exact d_niST | exact d_inG | exact d_niG
  | (apply d_ixL; walk_at "ix") | (apply d_ixT; walk_at "ix") | (apply d_ixR; walk_at "ix") | (apply d_ixS; walk_at "side"; walk_at "ix") | (apply d_ixDs; walk_at "ix")
  | (apply d_inD; walk_at "side") | (apply d_niD; walk_at "side")
  | (apply d_addS; walk_at "side") | (apply d_addL; walk_at "side") | (apply d_addT; walk_at "side"))
local macro_rules | `(tactic| walk_at "ra") => `(tactic| first
  | exact d_lenL | exact d_lenT | (apply d_lenS; walk_at "side") | exact d_lenR | exact d_lenD | exact d_sum | exact d_all | exact d_any
  | (apply d_max; walk_at "side") | (apply d_min; walk_at "side") | exact d_max2 | exact d_min2 | exact d_abs | exact d_int | exact d_intB
  | (apply d_intS; walk_at "side"; walk_at "side") | (apply d_str; walk_at "log") | exact d_listL | exact d_listT | exact d_listD | exact d_tupL | exact d_sorted
  | (apply d_isiC; assumption)
  | exact d_isiTy (b := true) rfl (by decide +kernel) | exact d_isiTy (b := false) rfl (by decide +kernel))
local macro_rules | `(tactic| walk_at "gs") => `(tactic| first
  | exact gs_nil | (apply gs_cons; walk_at "gd"; walk_at "gs"))
local macro_rules | `(tactic| walk_at "gd") => `(tactic| first
  | exact gd_name (by decide) | (apply gd_tupU; walk_at "gs"; rfl) | (apply gd_lstU; walk_at "gs"; rfl))
local macro_rules | `(tactic| walk_at "ea") => `(tactic| first
  | exact ea_nil | (apply ea_cons; walk_at "ev"; walk_at "ea") | (apply ea_starT; walk_at "ev"; walk_at "ea") | (apply ea_starL; walk_at "ev"; walk_at "ea"))
local macro_rules | `(tactic| walk_at "eo") => `(tactic| first
  | exact eo_none | (apply eo_some; walk_at "ev"))
local macro_rules | `(tactic| walk_at "it") => `(tactic| first
  | (apply it_r1; walk_at "ea"; walk_at "side"; walk_at "side")
  | (apply it_r2; walk_at "ea"; walk_at "side"; walk_at "side"; walk_at "side"; walk_at "side")
  | (apply it_en; walk_at "ea"; first | exact Or.inl rfl | exact Or.inr rfl)
  | (apply it_zp; walk_at "ea"; (first | exact Or.inl rfl | exact Or.inr rfl); (first | exact Or.inl rfl | exact Or.inr rfl))
  | (apply it_anyL; walk_at "ev") | (apply it_anyT; walk_at "ev") | (apply it_anyS; walk_at "ev"))
local macro_rules | `(tactic| walk_at "hds") => `(tactic| first | rfl | exact (List.map_id _).symm)
local macro_rules | `(tactic| walk_at "turn1") => `(tactic| (intro a ha; apply ex2; walk_at "gd"; walk_at "ev"))
local macro_rules | `(tactic| walk_at "turn2") => `(tactic| (intro a ha; apply ex3; walk_at "gd"; walk_at "et"; (intro hb; walk_at "ev")))
local macro_rules | `(tactic| walk_at "lc") => `(tactic| first
  | (apply en_lc1I; walk_at "it"; walk_at "hds"; exact trivial; walk_at "side"; walk_at "turn1")
  | (apply en_lc1B; walk_at "it"; walk_at "hds"; exact trivial; walk_at "side"; walk_at "turn1")
  | (apply en_lc1S; walk_at "it"; walk_at "hds"; exact trivial; walk_at "side"; walk_at "turn1")
  | (apply en_lc1; walk_at "it"; walk_at "hds"; exact trivial; walk_at "side"; walk_at "turn1")
  | (apply en_lcI; walk_at "it"; walk_at "hds"; exact trivial; walk_at "side"; walk_at "turn2")
  | (apply en_lcS; walk_at "it"; walk_at "hds"; exact trivial; walk_at "side"; walk_at "turn2")
  | (apply en_lc; walk_at "it"; walk_at "hds"; exact trivial; walk_at "side"; walk_at "turn2"))
local macro_rules | `(tactic| walk_at "ev") => `(tactic| first
  | exact ev_int | exact ev_str | exact ev_bl | exact ev_non | exact ev_ty | exact ev_adr | exact ev_var rfl
  | (apply ev_op; walk_at "ev"; walk_at "ev"; walk_at "r2")
  | (apply ev_ixW; rfl; walk_at "ev"; rfl; walk_at "ix")
  | (apply ev_un; walk_at "ev"; exact d_uNeg)
  | (apply ev_cb; walk_at "ea"; walk_at "ra")
  | (apply ev_tup; walk_at "ea"; walk_at "side")
  | (apply ev_call; walk_at "ea"; walk_at "R")
  | (apply ev_meth; walk_at "ev"; decide; walk_at "ea"; walk_at "R")
  | (apply ev_prop; walk_at "ev"; walk_at "R")
  | (apply ev_fldS; walk_at "ev"; rfl; assumption; assumption)
  | (apply ev_eqE; walk_at "ev") | (apply ev_neE; walk_at "ev")
  | (apply ev_fz; walk_at "lc")
  | (apply ev_lst; walk_at "ea"; walk_at "side")
  | (apply ev_andV; walk_at "ev"; (intro h1; walk_at "ev"))
  | (apply ev_orV; walk_at "ev"; (intro h1; walk_at "ev"))
  | (apply ev_notV; walk_at "ev")
  | (apply ev_chain; walk_at "ev"; walk_at "ev"; walk_at "r2"; (intro h1; apply And.intro; walk_at "ev"; walk_at "r2"))
  | (apply ev_slL; walk_at "ev"; walk_at "eo"; walk_at "eo")
  | (apply ev_slT; walk_at "ev"; walk_at "eo"; walk_at "eo")
  | (apply ev_slS; walk_at "ev"; walk_at "eo"; walk_at "eo"; walk_at "side")
  | (apply ev_indexI; walk_at "ev"; walk_at "ev"; walk_at "side"))
local macro_rules | `(tactic| walk_at "et") => `(tactic| first
  | (apply et_test; walk_at "ev") | (apply et_B; walk_at "ev") | (apply et_not; walk_at "et")
  | (apply et_and; walk_at "et"; (intro h1; walk_at "et")) | (apply et_or; walk_at "et"; (intro h1; walk_at "et")) | exact et_yes)
local macro_rules | `(tactic| walk_at "nrm") => `(tactic| (try simp only [List.set_cons_succ, List.set_cons_zero]))
local macro_rules | `(tactic| walk_at "asg") => `(tactic| (apply q_asg; walk_at "ev"; walk_at "nrm"))
local macro_rules | `(tactic| walk_at "drop") => `(tactic| (apply q_drop; walk_at "ev"))
local macro_rules | `(tactic| walk_at "tup") => `(tactic| (apply q_tupU; walk_at "ev"; walk_at "gs"; rfl; walk_at "nrm"))
local macro_rules | `(tactic| walk_at "ret") => `(tactic| (apply st_ret; walk_at "ev"))
local macro_rules | `(tactic| walk_at "bf") => `(tactic| focus (first | rfl | (simp; done) | (simp; omega) | (simp [*]; done) | (simp [*]; omega)))
local macro_rules | `(tactic| walk_at "no") => `(tactic| (apply q_no; walk_at "et"; walk_at "bf"))
local macro_rules | `(tactic| walk_at "chk") => `(tactic| (apply st_chk; walk_at "et"; walk_at "bf"; rfl))
local macro_rules | `(tactic| walk_at "unl") => `(tactic| (apply q_lstU; walk_at "ev"; walk_at "gs"; rfl; walk_at "nrm"))
local macro_rules | `(tactic| walk_at "R") => `(tactic| exact r_is_integer)
local macro_rules | `(tactic| walk_at "R") => `(tactic| exact r_is_between)
local macro_rules | `(tactic| walk_at "R") => `(tactic| exact r_is_day)
local macro_rules | `(tactic| walk_at "R") => `(tactic| exact r_check_year (by walk_at "side"))
local macro_rules | `(tactic| walk_at "R") => `(tactic| exact r_check_number (by walk_at "side"))
local macro_rules | `(tactic| walk_at "R") => `(tactic| exact r_check_life (by walk_at "side"))
local macro_rules | `(tactic| walk_at "R") => `(tactic| exact r_are_plants_of (by walk_at "side") (by walk_at "side"))
local macro_rules | `(tactic| walk_at "R") => `(tactic| exact r_check_plants (by walk_at "side") (by walk_at "side"))
local macro_rules | `(tactic| walk_at "R") => `(tactic| exact r_bearing_by (by walk_at "side") (by walk_at "side"))
local macro_rules | `(tactic| walk_at "R") => `(tactic| exact r_bearing (by walk_at "side") (by walk_at "side") (by walk_at "side"))
local macro_rules | `(tactic| walk_at "R") => `(tactic| exact r_bearings_of (by walk_at "side") (by walk_at "side"))
local macro_rules | `(tactic| walk_at "R") => `(tactic| exact r_least_bearing (by walk_at "side") (by walk_at "side"))
local macro_rules | `(tactic| walk_at "R") => `(tactic| exact r_most_bearing (by walk_at "side") (by walk_at "side"))
local macro_rules | `(tactic| walk_at "R") => `(tactic| exact r_even_plants (by walk_at "side") (by walk_at "side"))
local macro_rules | `(tactic| walk_at "R") => `(tactic| exact r_most_always (by walk_at "side") (by walk_at "side"))
local macro_rules | `(tactic| walk_at "R") => `(tactic| exact r_best_plants (by walk_at "side") (by walk_at "side"))
local macro_rules | `(tactic| walk_at "R") => `(tactic| exact r_common (by walk_at "side") (by walk_at "side"))
local macro_rules | `(tactic| walk_at "R") => `(tactic| exact r_reduced (by walk_at "side") (by walk_at "side"))
local macro_rules | `(tactic| walk_at "R") => `(tactic| exact r_is_name (by walk_at "side"))
local macro_rules | `(tactic| walk_at "R") => `(tactic| exact r_read_integer (by walk_at "side"))
local macro_rules | `(tactic| walk_at "R") => `(tactic| exact r_is_pattern (by walk_at "side"))
local macro_rules | `(tactic| walk_at "R") => `(tactic| exact r_palm_in (by walk_at "side"))
local macro_rules | `(tactic| walk_at "R") => `(tactic| exact r_is_new (by walk_at "side") (by walk_at "side") (by walk_at "side") (by walk_at "side") (by walk_at "side"))
/-! a grove is read -/
structure GrvK (K : PySem.W.Frag) (C : Addr) : Prop where
  c : Cls K C
  t : NoAttr K C ("own_text" : Str)
  h : NoAttr K C ("own_head" : Str)
  p : NoAttr K C ("own_palms" : Str)
  m : NoAttr K C ("own_males" : Str)
/-- the text tells s -/
structure Told (text : Str) (s : RSt) : Prop where
  len : text.length ≤ 90000
  lines : (Txt.split text "\n").length ≤ 1000
  each : ∀ l ∈ Txt.split text "\n", l.length ≤ 90000
  walk : ∃ st : Nat → RSt, st 0 = ⟨none, [], [], [], []⟩ ∧ st (Txt.split text "\n").length = s ∧ ∀ i l, (Txt.split text "\n")[i]? = some l → Takes (st i) l (st (i + 1))
  some : s.ks ≠ []
abbrev gns : List Str := [("own_text" : Str), ("own_head" : Str), ("own_palms" : Str), ("own_males" : Str)]
abbrev grD (C : Addr) (text : Str) (s : RSt) : D := .obj C gns [.str text, hdD s.hd, .dic s.ks s.ds, .dic s.mks s.mds]
def sp_grove (K : PySem.W.Frag) (C : Addr) : Sp := fun vs H Q _ => ∃ F g dx text s, vs = [.ref g, .str text] ∧ Ex F H ∧ F g = none ∧ H g = some (.ins C dx []) ∧ Told text s ∧
  ∀ F' H', Rep K F' (grD C text s) (.ref g) → Ex F F' → (∀ p, F p = none → H p ≠ none → p ≠ g → F' p = none) → Ex F' H' → (∀ a u, a ≠ g → H a = some u → H' a = some u) → Q .non H'
theorem sp_grove_len {C : Addr} : ∀ (vs : List V) (H : Hp) (Q : VK) (E : XK), sp_grove K C vs H Q E → vs.length = 2 := by
  rintro _ _ _ _ ⟨F, g, dx, text, s, rfl, _⟩; rfl
/-- Grove(text) -/
theorem ev_grove {C : Addr} {E : XK} {t : TA} {env env1 : List Slot} {text : Str} {s : RSt} (ha : EvA K t env [.str text] env1) (ht : Told text s) : Ev K (tMake C (sp_grove K C) [] E t) env (grD C text s) env1 := fun B F H σ w Q q =>
  ha B F H σ w _ fun vs F1 H1 w1 g1 r1 => by
    obtain ⟨v, us, rfl, r2, r3⟩ := r1
    have r3 : us = [] := r3
    have r2 : v = .str text := r2
    subst r3 r2
    intro x dx hx hdx hne
    have u1 : Up F1 H1 F1 (upd (upd H1 dx (.own x)) x (.ins C dx [])) := (Up.heap w1.fh hdx).trans (Up.heap (w1.fh.trans (Evl.Ex.new hdx)) (by rw [upd_ne (Ne.symm hne)]; exact hx))
    refine ⟨F1, x, dx, text, s, rfl, u1.fh, fresh_back w1.fh hx, by rw [upd_same], ht, fun F' H' t1 t2 t3 t4 t5 => ⟨rfl, ?_⟩⟩
    have u2 : Up F1 H1 F' H' := ⟨fun a u h => t5 a u (fun z => by rw [z, hx] at h; cases h) (u1.h a u h), t2, t4, fun p h1 h2 => t3 p h1 (by
      cases hp : H1 p with
      | none => exact absurd hp h2
      | some o => rw [u1.h p o hp]; simp) fun z => h2 (by rw [z]; exact hx)⟩
    exact q _ F' H' (w1.up u2) (g1.trans (.of_up w1.bh u2)) t1
theorem live {Cr : Addr} {F H H0 : Hp} {r pd md : Addr} {s : RSt} (a : RdAt K Cr F H r pd md s) (k : ∀ c z, c ≠ r → c ≠ pd → c ≠ md → H0 c = some z → H c = some z) (p : Addr) (h : H0 p ≠ none) : H p ≠ none := by
  obtain ⟨dx, hv, o1, o2⟩ := a.obj
  obtain ⟨vs, p1, p2, p3⟩ := a.pal
  obtain ⟨us, m1, m2, m3⟩ := a.mal
  by_cases h1 : p = r
  · rw [h1, o1]; simp
  by_cases h2 : p = pd
  · rw [h2, p1]; simp
  by_cases h3 : p = md
  · rw [h3, m1]; simp
  cases hq : H0 p with
  | none => exact absurd hq h
  | some o => rw [k p o h1 h2 h3 hq]; simp
theorem p_grove {C Cr : Addr} (k : GrvK K C) (kr : RdrK K Cr) : ∀ (vs : List V) (H : Hp) (Q : VK) (E : XK), sp_grove K C vs H Q E →
    t_Grove___init__ K Cr (sp_init K Cr) (sp_takes K Cr) { nx := fun _ H' => Q .non H', rt := Q } (L2.start N_Grove___init__ vs) H := by
  rintro _ H Q E ⟨F, g, gx, text, s, rfl, e, fg, hg, ht, q⟩
  obtain ⟨st, st0, stn, stp⟩ := ht.walk
  have w0 : W K F H (L2.start N_Grove___init__ [.ref g, .str text]) [.val (.adr g), .val (.str text), .no, .no, .no, .no] := w_start (K := K) (N := N_Grove___init__) (ds := [.adr g, .str text]) e ⟨_, _, rfl, rfl, _, _, rfl, rfl, rfl⟩
  refine w_no (x := false) (env1 := [.val (.adr g), .val (.str text), .no, .no, .no, .no]) w0 (et_is (by walk_at "et") (by rfl)) rfl rfl fun F1 H1 w1 e1 g1 => ?_
  -- reader, lines
  intro r dx hr hdx hne
  have hrg : g ≠ r := fun z => by have := e1 _ _ hg; rw [z, hr] at this; cases this
  have u1 : Up F1 H1 F1 (upd (upd H1 dx (.own r)) r (.ins Cr dx [])) := (Up.heap w1.fh hdx).trans (Up.heap (w1.fh.trans (Evl.Ex.new hdx)) (by rw [upd_ne (Ne.symm hne)]; exact hr))
  refine ⟨F1, r, dx, rfl, u1.fh, fresh_back w1.fh hr, by rw [upd_same], fun pd md H2 ra2 fh2 hpd hmd hk2 => ⟨rfl, ?_⟩⟩
  have hH1 : ∀ p, upd (upd H1 dx (.own r)) r (.ins Cr dx []) p = none → H1 p = none := fun p h => fresh_back u1.h h
  have hpd1 := hH1 _ hpd
  have hmd1 := hH1 _ hmd
  have e2 : Ex H1 H2 := fun a u h => hk2 a u (fun z => by rw [z, hr] at h; cases h) (u1.h a u h)
  have w2 := w_up w1 rfl fh2
  refine w_ea (ds := [.lst ((Txt.split text "\n").map .str)]) (env1 := [.val (.adr g), .val (.str text), .no, .no, .no, .no]) w2 (ea_cons (ev_split (by walk_at "ev") (by walk_at "ev") (by decide) ht.len) ea_nil) rfl fun us F3 H3 w3 e3 g3 ru => ?_
  obtain ⟨u, us', rfl, ru1, ru2⟩ := ru
  have ru2 : us' = [] := ru2
  subst ru2
  refine ⟨_, _, rfl, ?_⟩
  have ra3 := ra2.mono e3 g3
  have w4 : W K F3 H3 _ [.val (.adr g), .val (.str text), .val (.adr r), .val (.lst ((Txt.split text "\n").map .str)), .no, .no] := ((w3.set (i := 2) (d := .adr r) rfl).set (i := 3) ru1).base rfl
  have e13 : Ex H1 H3 := e2.trans e3
  have g13 : Gr H1 F1 F3 := Gr.weak e2 g3
  have n4 : NoOwn ([Slot.val (.adr g), .val (.str text), .val (.adr r), .val (.lst ((Txt.split text "\n").map .str)), .no, .no]) := rfl
  have hit : It K (iEn K (tCons (tVar 3) tNil)) [Slot.val (.adr g), .val (.str text), .val (.adr r), .val (.lst ((Txt.split text "\n").map .str)), .no, .no] ((((Txt.split text "\n").map D.str).zipIdx).map fun p => D.tup [.int (p.2 : Nat), p.1]) [Slot.val (.adr g), .val (.str text), .val (.adr r), .val (.lst ((Txt.split text "\n").map .str)), .no, .no] fun _ => True := it_en (by walk_at "ea") (Or.inl rfl)
  refine w_for (vs := List.range 40) w4 hit n4 fun F4 H4 w5 e4 g4 => ⟨fun i F' H' σ' ev => ∃ a b, ev = [.val (.adr g), .val (.str text), .val (.adr r), .val (.lst ((Txt.split text "\n").map .str)), a, b] ∧ a.plain = true ∧ b.plain = true ∧ W K F' H' σ' ev ∧ Gr H4 F4 F' ∧
    (∀ c z, c ≠ r → c ≠ pd → c ≠ md → H4 c = some z → H' c = some z) ∧ RdAt K Cr F' H' r pd md (st i), ?_, ?_, ?_, ?_⟩
  · refine ⟨.no, .no, rfl, rfl, rfl, w5, .refl, fun c z _ _ _ h => h, ?_⟩
    rw [st0]; exact ra3.mono e4 g4
  · rintro i F5 H5 σ5 ev ⟨a, b, rfl, ha, hb, w6, g6, k6, ra6⟩
    exact ⟨w6, trivial, g6.f⟩
  · rintro i d F5 H5 σ5 ev hd ⟨a, b, rfl, ha, hb, w6, g6, k6, ra6⟩
    have hd2 : ∃ l, (Txt.split text "\n")[i]? = some l ∧ d = .tup [.int (i : Nat), .str l] := by
      rw [List.getElem?_map, List.getElem?_zipIdx, List.getElem?_map] at hd
      cases hl : (Txt.split text "\n")[i]? with
      | none => rw [hl] at hd; cases hd
      | some l => rw [hl] at hd; exact ⟨l, rfl, by cases hd; simp⟩
    obtain ⟨l, hl, rfl⟩ := hd2
    refine ⟨[.val (.adr g), .val (.str text), .val (.adr r), .val (.lst ((Txt.split text "\n").map .str)), .val (.int (i : Nat)), .val (.str l)], gd_tupU (gs_cons (gd_name (by decide)) (gs_cons (gd_name (by decide)) gs_nil)) rfl, rfl, fun F7 H7 σ7 w7 e7 g7 E' hE => ?_⟩
    have ra7 := ra6.mono e7 g7
    obtain ⟨dx7, hv7, o71, o72⟩ := ra7.obj
    obtain ⟨y, hy, ry⟩ := w7.val 2 (.adr r) rfl
    have ry : y = .ref r := ry
    subst ry
    obtain ⟨y, hy5, ry⟩ := w7.val 5 (.str l) rfl
    have ry : y = .str l := ry
    subst ry
    have nE : NoOwn ([Slot.val (.adr g), .val (.str text), .val (.adr r), .val (.lst ((Txt.split text "\n").map .str)), .val (.int (i : Nat)), .val (.str l)]) := rfl
    refine ⟨_, hy, r, dx7, _, rfl, o71, rfl, _, hy5, F7, r, pd, md, st i, l, st (i + 1), rfl, w7.fh, ra7, ht.each l (List.mem_of_getElem? hl), stp i l hl, fun F8 H8 t1 t2 t3 t4 => ⟨true, rfl, ?_⟩⟩
    refine hE F8 H8 σ7 [.val (.adr g), .val (.str text), .val (.adr r), .val (.lst ((Txt.split text "\n").map .str)), .val (.int (i : Nat)), .val (.str l)] ⟨_, _, rfl, rfl, rfl, ?_, ?_, fun c z h1 h2 h3 h => t4 c z h1 h2 h3 (e7 _ _ (k6 c z h1 h2 h3 h)), t1⟩
    · exact ⟨.refl _, t3, fun j d hd => let ⟨v, h1, h2⟩ := w7.val j d hd; ⟨v, h1, h2.mono t2.f⟩, fun j p o h => (nE.no h).elim, w7.sep, w7.len⟩
    · refine g6.trans ⟨g7.f.trans t2.f, fun p h1 h2 => ?_⟩
      have hh := live ra6 k6 p h2
      refine t2.no p (g7.no p h1 hh) fun z => ?_
      cases hq : H5 p with
      | none => exact hh hq
      | some o => rw [e7 p o hq] at z; cases z
  · rintro F5 H5 σ5 ev ⟨a, b, rfl, ha, hb, w6, g6, k6, ra6⟩
    have hlen : ((((Txt.split text "\n").map D.str).zipIdx).map fun p => D.tup [.int (p.2 : Nat), p.1]).length = (Txt.split text "\n").length := by simp
    rw [hlen, stn] at ra6
    have n6 : NoOwn ([Slot.val (.adr g), .val (.str text), .val (.adr r), .val (.lst ((Txt.split text "\n").map .str)), a, b]) := by
      show ([Slot.val (.adr g), .val (.str text), .val (.adr r), .val (.lst ((Txt.split text "\n").map .str)), a, b].all Slot.plain) = true
      simp only [List.all_cons, ha, hb]; rfl
    obtain ⟨F6v, f1, f2, f3, f4⟩ := ra6.view w6.fh
    show tSeq (tIfS (tTest (tOp (uEq K) (tFld K (tVar 2) ("own_palms" : Str)) tDNewK)) tNever tNext) _ _ σ5 H5
    refine w_noP (i := 2) (o := rdD Cr s) (x := false) w6 n6 f1 f2 (by
      obtain ⟨y, h1, h2⟩ := w6.val 2 _ rfl
      exact ⟨y, h1, by rw [show y = .ref r from h2]; exact f3⟩) (et_is (by
      obtain ⟨kc, kh, kp, km⟩ := kr
      show EvT K _ [.val (.adr g), .val (.str text), .val (rdD Cr s), .val (.lst ((Txt.split text "\n").map .str)), a, b] _ _
      unfold rdD
      walk_at "et") (by
        have := ht.some
        cases hk : s.ks with
        | nil => exact absurd hk this
        | cons _ _ => rfl)) rfl fun H6 w7 e6 => ?_
    have ra7 := ra6.mono e6 .refl
    obtain ⟨Fv, v1, v2, v3, v4, dx, hv, v5, v6⟩ := ra7.view2 w7.fh
    have npd : g ≠ pd := fun z => by have := e1 _ _ hg; rw [z, hpd1] at this; cases this
    have nmd : g ≠ md := fun z => by have := e1 _ _ hg; rw [z, hmd1] at this; cases this
    have old : ∀ c z, H1 c = some z → c ≠ r ∧ c ≠ pd ∧ c ≠ md ∧ H6 c = some z := fun c z h => by
      have n1 : c ≠ r := fun y => by rw [y, hr] at h; cases h
      have n2 : c ≠ pd := fun y => by rw [y, hpd1] at h; cases h
      have n3 : c ≠ md := fun y => by rw [y, hmd1] at h; cases h
      exact ⟨n1, n2, n3, e6 _ _ (k6 c z n1 n2 n3 (e4 _ _ (e13 _ _ h)))⟩
    obtain ⟨_, _, _, hg6⟩ := old _ _ (e1 _ _ hg)
    obtain ⟨y0, hy0, ry0⟩ := w7.val 0 (.adr g) rfl
    have ry0 : y0 = .ref g := ry0
    subst ry0
    obtain ⟨y1, hy1, ry1⟩ := w7.val 1 (.str text) rfl
    have ry1 : y1 = .str text := ry1
    subst ry1
    obtain ⟨y2, hy2, ry2⟩ := w7.val 2 (.adr r) rfl
    have ry2 : y2 = .ref r := ry2
    subst ry2
    have nl : F5 g = none := g6.no g (g4.no g (g13.no g (g1.no g fg (by rw [hg]; simp)) (by rw [e1 _ _ hg]; simp)) (by rw [e13 _ _ (e1 _ _ hg)]; simp)) (by rw [e4 _ _ (e13 _ _ (e1 _ _ hg))]; simp)
    have nv : Fv g = none := by rw [v4 g hrg npd nmd]; exact nl
    refine ⟨_, hy1, _, hy0, g, C, gx, _, rfl, hg6, k.c, k.t, Nat.le_of_ble_eq_true rfl, ?_⟩
    refine ⟨_, hy2, r, Cr, dx, _, hv, rfl, by rw [upd_ne (Ne.symm hrg)]; exact v5, kr.c, kr.h, rfl, _, hy0, g, C, gx, _, rfl, upd_same, k.c, k.h, Nat.le_of_ble_eq_true rfl, ?_⟩
    refine ⟨_, hy2, r, Cr, dx, _, .ref pd, rfl, by rw [upd_ne (Ne.symm hrg), upd_ne (Ne.symm hrg)]; exact v5, kr.c, kr.p, rfl, _, hy0, g, C, gx, _, rfl, upd_same, k.c, k.p, Nat.le_of_ble_eq_true rfl, ?_⟩
    refine ⟨_, hy2, r, Cr, dx, _, .ref md, rfl, by rw [upd_ne (Ne.symm hrg), upd_ne (Ne.symm hrg), upd_ne (Ne.symm hrg)]; exact v5, kr.c, kr.m, rfl, _, hy0, g, C, gx, _, rfl, upd_same, k.c, k.m, Nat.le_of_ble_eq_true rfl, ?_⟩
    have ev : Ex Fv (upd Fv g (.ins C gx [(("own_text" : Str), .str text), (("own_head" : Str), hv), (("own_palms" : Str), .ref pd), (("own_males" : Str), .ref md)])) := Evl.Ex.new nv
    refine q (upd Fv g (.ins C gx [(("own_text" : Str), .str text), (("own_head" : Str), hv), (("own_palms" : Str), .ref pd), (("own_males" : Str), .ref md)])) _ ⟨g, gx, [.str text, hv, .ref pd, .ref md], rfl, by rw [upd_same]; rfl, rfl, _, _, rfl, rfl, v6.mono ev⟩ ?_ ?_ ?_ ?_
    · exact g1.f.trans (g13.f.trans (g4.f.trans (g6.f.trans (v1.trans ev))))
    · intro p h1 h2 h3
      rw [upd_ne h3]
      cases hp : H p with
      | none => exact absurd hp h2
      | some o =>
        have hp1 := e1 _ _ hp
        obtain ⟨n1, n2, n3, _⟩ := old _ _ hp1
        rw [v4 p n1 n2 n3]
        exact g6.no p (g4.no p (g13.no p (g1.no p h1 h2) (by rw [hp1]; simp)) (by rw [e13 _ _ hp1]; simp)) (by rw [e4 _ _ (e13 _ _ hp1)]; simp)
    · exact Dl.Ex.upd2 (((v2.mut nv).mut nv).mut nv)
    · intro c u h1 h
      obtain ⟨_, _, _, h6⟩ := old _ _ (e1 _ _ h)
      rw [upd_ne h1, upd_ne h1, upd_ne h1, upd_ne h1]; exact h6
end K83

set_option Elab.async false
set_option linter.all false
set_option maxRecDepth 100000
set_option maxHeartbeats 4000000
set_option autoImplicit false
namespace K83
open PySem L2 Dl StX
open Evl (Ex fresh_back ex_rd)
variable {K : PySem.W.Frag}
local macro_rules | `(tactic| walk_at "side") => `(tactic| focus (first | assumption | rfl | exact Nat.le_of_ble_eq_true rfl | omega | decide | (simp; done) | (simp; omega)))
local macro_rules | `(tactic| walk_at "ix") => `(tactic| first | rfl | assumption | exact atI_nat (by focus (first | rfl | assumption | (simp; done))))
local macro_rules | `(tactic| walk_at "log") => `(tactic| first | assumption | exact mul_sm (by unfold Sm; omega) (by unfold Sm; omega) | exact log_sm2 (by unfold Sm; omega) | exact log_sm (by unfold Sm; omega) | decide)
local macro_rules | `(tactic| walk_at "R") => `(tactic| fail "no R")
local macro_rules | `(tactic| walk_at "r2") => `(tactic| first
  | exact d_add | exact d_sub | exact d_lt | exact d_le | exact d_gt | exact d_ge | exact d_eqI | exact d_neI | exact d_eqS | exact d_neS | exact d_eqB | exact d_neB
  | exact d_eqT2 | exact d_neT2 | exact d_eqTI | exact d_neTI | exact d_eqLI | exact d_neLI | (apply d_eqTS; assumption; assumption)
  | exact d_isN | exact d_ntN | exact d_isB | exact d_ntB
  | (apply d_mod; walk_at "side") | (apply d_div; walk_at "side"; walk_at "log") | (apply d_mul; walk_at "log") | (apply d_pow; walk_at "side"; walk_at "log")
  | exact d_inS | exact d_niS | exact d_inST | exact d_niST | exact d_inG | exact d_niG
  | (apply d_ixL; walk_at "ix") | (apply d_ixT; walk_at "ix") | (apply d_ixR; walk_at "ix") | (apply d_ixS; walk_at "side"; walk_at "ix") | (apply d_ixDs; walk_at "ix")
  | (apply d_inD; walk_at "side") | (apply d_niD; walk_at "side")
  | (apply d_addS; walk_at "side") | (apply d_addL; walk_at "side") | (apply d_addT; walk_at "side"))
local macro_rules | `(tactic| walk_at "ra") => `(tactic| first
  | exact d_lenL | exact d_lenT | (apply d_lenS; walk_at "side") | exact d_lenR | exact d_lenD | exact d_sum | exact d_all | exact d_any
  | (apply d_max; walk_at "side") | (apply d_min; walk_at "side") | exact d_max2 | exact d_min2 | exact d_abs | exact d_int | exact d_intB
  | (apply d_intS; walk_at "side"; walk_at "side") | (apply d_str; walk_at "log") | exact d_listL | exact d_listT | exact d_listD | exact d_tupL | exact d_sorted
  | (apply d_isiC; assumption)
  | exact d_isiTy (b := true) rfl (by decide +kernel) | exact d_isiTy (b := false) rfl (by decide +kernel))
local macro_rules | `(tactic| walk_at "gs") => `(tactic| first
  | exact gs_nil | (apply gs_cons; walk_at "gd"; walk_at "gs"))
local macro_rules | `(tactic| walk_at "gd") => `(tactic| first
  | exact gd_name (by decide) | (apply gd_tupU; walk_at "gs"; rfl) | (apply gd_lstU; walk_at "gs"; rfl))
local macro_rules | `(tactic| walk_at "ea") => `(tactic| first
  | exact ea_nil | (apply ea_cons; walk_at "ev"; walk_at "ea") | (apply ea_starT; walk_at "ev"; walk_at "ea") | (apply ea_starL; walk_at "ev"; walk_at "ea"))
local macro_rules | `(tactic| walk_at "eo") => `(tactic| first
  | exact eo_none | (apply eo_some; walk_at "ev"))
local macro_rules | `(tactic| walk_at "it") => `(tactic| first
  | (apply it_r1; walk_at "ea"; walk_at "side"; walk_at "side")
  | (apply it_r2; walk_at "ea"; walk_at "side"; walk_at "side"; walk_at "side"; walk_at "side")
  | (apply it_en; walk_at "ea"; first | exact Or.inl rfl | exact Or.inr rfl)
  | (apply it_zp; walk_at "ea"; (first | exact Or.inl rfl | exact Or.inr rfl); (first | exact Or.inl rfl | exact Or.inr rfl))
  | (apply it_anyL; walk_at "ev") | (apply it_anyT; walk_at "ev") | (apply it_anyS; walk_at "ev"))
local macro_rules | `(tactic| walk_at "hds") => `(tactic| first | rfl | exact (List.map_id _).symm)
local macro_rules | `(tactic| walk_at "turn1") => `(tactic| (intro a ha; apply ex2; walk_at "gd"; walk_at "ev"))
local macro_rules | `(tactic| walk_at "turn2") => `(tactic| (intro a ha; apply ex3; walk_at "gd"; walk_at "et"; (intro hb; walk_at "ev")))
local macro_rules | `(tactic| walk_at "lc") => `(tactic| first
  | (apply en_lc1I; walk_at "it"; walk_at "hds"; exact trivial; walk_at "side"; walk_at "turn1")
  | (apply en_lc1B; walk_at "it"; walk_at "hds"; exact trivial; walk_at "side"; walk_at "turn1")
  | (apply en_lc1S; walk_at "it"; walk_at "hds"; exact trivial; walk_at "side"; walk_at "turn1")
  | (apply en_lc1; walk_at "it"; walk_at "hds"; exact trivial; walk_at "side"; walk_at "turn1")
  | (apply en_lcI; walk_at "it"; walk_at "hds"; exact trivial; walk_at "side"; walk_at "turn2")
  | (apply en_lcS; walk_at "it"; walk_at "hds"; exact trivial; walk_at "side"; walk_at "turn2")
  | (apply en_lc; walk_at "it"; walk_at "hds"; exact trivial; walk_at "side"; walk_at "turn2"))
local macro_rules | `(tactic| walk_at "ev") => `(tactic| first
  | exact ev_int | exact ev_str | exact ev_bl | exact ev_non | exact ev_ty | exact ev_adr | exact ev_var rfl
  | (apply ev_op; walk_at "ev"; walk_at "ev"; walk_at "r2")
  | (apply ev_ixW; rfl; walk_at "ev"; rfl; walk_at "ix")
  | (apply ev_un; walk_at "ev"; exact d_uNeg)
  | (apply ev_cb; walk_at "ea"; walk_at "ra")
  | (apply ev_tup; walk_at "ea"; walk_at "side")
  | (apply ev_call; walk_at "ea"; walk_at "R")
  | (apply ev_meth; walk_at "ev"; decide; walk_at "ea"; walk_at "R")
  | (apply ev_prop; walk_at "ev"; walk_at "R")
  | (apply ev_fldS; walk_at "ev"; rfl; assumption; assumption)
  | (apply ev_eqE; walk_at "ev") | (apply ev_neE; walk_at "ev")
  | (apply ev_fz; walk_at "lc")
  | (apply ev_lst; walk_at "ea"; walk_at "side")
  | (apply ev_andV; walk_at "ev"; (intro h1; walk_at "ev"))
  | (apply ev_orV; walk_at "ev"; (intro h1; walk_at "ev"))
  | (apply ev_notV; walk_at "ev")
  | (apply ev_chain; walk_at "ev"; walk_at "ev"; walk_at "r2"; (intro h1; apply And.intro; walk_at "ev"; walk_at "r2"))
  | (apply ev_slL; walk_at "ev"; walk_at "eo"; walk_at "eo")
  | (apply ev_slT; walk_at "ev"; walk_at "eo"; walk_at "eo")
  | (apply ev_slS; walk_at "ev"; walk_at "eo"; walk_at "eo"; walk_at "side")
  | (apply ev_indexI; walk_at "ev"; walk_at "ev"; walk_at "side"))
local macro_rules | `(tactic| walk_at "et") => `(tactic| first
  | (apply et_test; walk_at "ev") | (apply et_B; walk_at "ev") | (apply et_not; walk_at "et")
  | (apply et_and; walk_at "et"; (intro h1; walk_at "et")) | (apply et_or; walk_at "et"; (intro h1; walk_at "et")) | exact et_yes)
local macro_rules | `(tactic| walk_at "nrm") => `(tactic| (try simp only [List.set_cons_succ, List.set_cons_zero]))
local macro_rules | `(tactic| walk_at "asg") => `(tactic| (apply q_asg; walk_at "ev"; walk_at "nrm"))
local macro_rules | `(tactic| walk_at "drop") => `(tactic| (apply q_drop; walk_at "ev"))
local macro_rules | `(tactic| walk_at "tup") => `(tactic| (apply q_tupU; walk_at "ev"; walk_at "gs"; rfl; walk_at "nrm"))
local macro_rules | `(tactic| walk_at "ret") => `(tactic| (apply st_ret; walk_at "ev"))
local macro_rules | `(tactic| walk_at "bf") => `(tactic| focus (first | rfl | (simp; done) | (simp; omega) | (simp [*]; done) | (simp [*]; omega)))
local macro_rules | `(tactic| walk_at "no") => `(tactic| (apply q_no; walk_at "et"; walk_at "bf"))
local macro_rules | `(tactic| walk_at "chk") => `(tactic| (apply st_chk; walk_at "et"; walk_at "bf"; rfl))
local macro_rules | `(tactic| walk_at "unl") => `(tactic| (apply q_lstU; walk_at "ev"; walk_at "gs"; rfl; walk_at "nrm"))
local macro_rules | `(tactic| walk_at "R") => `(tactic| exact r_is_integer)
local macro_rules | `(tactic| walk_at "R") => `(tactic| exact r_is_between)
local macro_rules | `(tactic| walk_at "R") => `(tactic| exact r_is_day)
local macro_rules | `(tactic| walk_at "R") => `(tactic| exact r_check_year (by walk_at "side"))
local macro_rules | `(tactic| walk_at "R") => `(tactic| exact r_check_number (by walk_at "side"))
local macro_rules | `(tactic| walk_at "R") => `(tactic| exact r_check_life (by walk_at "side"))
local macro_rules | `(tactic| walk_at "R") => `(tactic| exact r_are_plants_of (by walk_at "side") (by walk_at "side"))
local macro_rules | `(tactic| walk_at "R") => `(tactic| exact r_check_plants (by walk_at "side") (by walk_at "side"))
local macro_rules | `(tactic| walk_at "R") => `(tactic| exact r_bearing_by (by walk_at "side") (by walk_at "side"))
local macro_rules | `(tactic| walk_at "R") => `(tactic| exact r_bearing (by walk_at "side") (by walk_at "side") (by walk_at "side"))
local macro_rules | `(tactic| walk_at "R") => `(tactic| exact r_bearings_of (by walk_at "side") (by walk_at "side"))
local macro_rules | `(tactic| walk_at "R") => `(tactic| exact r_least_bearing (by walk_at "side") (by walk_at "side"))
local macro_rules | `(tactic| walk_at "R") => `(tactic| exact r_most_bearing (by walk_at "side") (by walk_at "side"))
local macro_rules | `(tactic| walk_at "R") => `(tactic| exact r_even_plants (by walk_at "side") (by walk_at "side"))
local macro_rules | `(tactic| walk_at "R") => `(tactic| exact r_most_always (by walk_at "side") (by walk_at "side"))
local macro_rules | `(tactic| walk_at "R") => `(tactic| exact r_best_plants (by walk_at "side") (by walk_at "side"))
local macro_rules | `(tactic| walk_at "R") => `(tactic| exact r_common (by walk_at "side") (by walk_at "side"))
local macro_rules | `(tactic| walk_at "R") => `(tactic| exact r_reduced (by walk_at "side") (by walk_at "side"))
local macro_rules | `(tactic| walk_at "R") => `(tactic| exact r_is_name (by walk_at "side"))
local macro_rules | `(tactic| walk_at "R") => `(tactic| exact r_read_integer (by walk_at "side"))
local macro_rules | `(tactic| walk_at "R") => `(tactic| exact r_is_pattern (by walk_at "side"))
local macro_rules | `(tactic| walk_at "R") => `(tactic| exact r_palm_in (by walk_at "side"))
local macro_rules | `(tactic| walk_at "R") => `(tactic| exact r_is_new (by walk_at "side") (by walk_at "side") (by walk_at "side") (by walk_at "side") (by walk_at "side"))
/-! what is asked of a grove -/
structure Pm where
  nm : Str
  e : Int
  o : Int
  t : Int
  p : Str
  n : Int
def Pm.d (q : Pm) : D := .tup [.int q.e, .int q.o, .int q.t, .str q.p, .int q.n]
structure Gv where
  text : Str
  hd : Option (Int × Int)
  ps : List Pm
  mks : List Key
  mds : List D
abbrev Gv.s (g : Gv) : RSt := ⟨g.hd, g.ps.map fun q => Sum.inr q.nm, g.ps.map Pm.d, g.mks, g.mds⟩
abbrev Gv.d (C : Addr) (g : Gv) : D := grD C g.text g.s
structure GvOk (g : Gv) : Prop where
  nd : (g.ps.map Pm.nm).Nodup
  le : g.ps.length ≤ 12
  nm : ∀ q ∈ g.ps, NmOk q.nm
  ok : ∀ q ∈ g.ps, PatOk q.p ∧ 0 ≤ q.n ∧ q.n ≤ 99
structure GK (K : PySem.W.Frag) (C : Addr) : Prop where
  i : C8.InsC K C
  t : NoAttr K C ("own_text" : Str)
  h : NoAttr K C ("own_head" : Str)
  p : NoAttr K C ("own_palms" : Str)
  m : NoAttr K C ("own_males" : Str)
theorem dlk_pm : ∀ {ps : List Pm} {q : Pm}, (ps.map Pm.nm).Nodup → q ∈ ps → dlk (ps.map fun q => Sum.inr q.nm) (ps.map Pm.d) (Sum.inr q.nm) = some (.tup [.int q.e, .int q.o, .int q.t, .str q.p, .int q.n])
  | [], _, _, h => absurd h (by simp)
  | a :: ps, q, nd, h => by
    rw [List.map_cons, List.nodup_cons] at nd
    rcases List.mem_cons.mp h with rfl | h
    · simp [dlk, Pm.d]
    · have ne : a.nm ≠ q.nm := fun z => nd.1 (z ▸ List.mem_map_of_mem h)
      have ih := dlk_pm nd.2 h
      simp [dlk, ne] at ih ⊢
      exact ih
theorem dlk_tx {g : Gv} {q : Pm} (h : GvOk g) (hq : q ∈ g.ps) : dlk g.s.ks g.s.ds (Sum.inr q.nm) = some (.tup [.int q.e, .int q.o, .int q.t, .str q.p, .int q.n]) := dlk_pm h.nd hq
def names (g : Gv) : List Str := g.ps.map Pm.nm
def R_text (C : Addr) (ds : List D) (d : D) : Prop := ∃ g : Gv, ds = [g.d C] ∧ d = .str g.text
def R_palm_names (C : Addr) (ds : List D) (d : D) : Prop := ∃ g : Gv, ds = [g.d C] ∧ d = .lst ((names g).map .str)
theorem r_palm_names {C : Addr} {g : Gv} : R_palm_names C [g.d C] (.lst ((names g).map .str)) := ⟨g, rfl, rfl⟩
theorem p_palm_names {C : Addr} (k : GK K C) : ∀ ds d, R_palm_names C ds d → St K (t_Grove_palm_names K) (ds.map Slot.val ++ List.replicate (N_Grove_palm_names.length - ds.length) .no) (Ret d) := by
  rintro _ _ ⟨g, rfl, rfl⟩
  obtain ⟨ki, kt, kh, kp, km⟩ := k
  have kc := ki.cl
  show St K _ [.val (g.d C)] _
  walk_at "ret"
  show D.lst _ = D.lst _
  congr 1
  simp [names, kD, Function.comp_def]
local macro_rules | `(tactic| walk_at "R") => `(tactic| exact r_palm_names)
def R_years_of (C : Addr) (ds : List D) (d : D) : Prop := ∃ (g : Gv) (q : Pm), GvOk g ∧ q ∈ g.ps ∧ ds = [g.d C, .str q.nm] ∧ d = .str q.p
theorem r_years_of {C : Addr} {g : Gv} {q : Pm} (h : GvOk g) (hq : q ∈ g.ps) : R_years_of C [g.d C, .str q.nm] (.str q.p) := ⟨g, q, h, hq, rfl, rfl⟩
theorem p_years_of {C : Addr} (k : GK K C) : ∀ ds d, R_years_of C ds d → St K (t_Grove_years_of K) (ds.map Slot.val ++ List.replicate (N_Grove_years_of.length - ds.length) .no) (Ret d) := by
  rintro _ _ ⟨g, q, h, hq, rfl, rfl⟩
  obtain ⟨ki, kt, kh, kp, km⟩ := k
  have kc := ki.cl
  have hx := dlk_tx h hq
  show St K _ [.val (g.d C), .val (.str q.nm)] _
  walk_at "ret"
  rfl
local macro_rules | `(tactic| walk_at "R") => `(tactic| exact r_years_of (by walk_at "side") (by walk_at "side"))
def R_dates_of (C : Addr) (ds : List D) (d : D) : Prop := ∃ (g : Gv) (q : Pm), GvOk g ∧ q ∈ g.ps ∧ ds = [g.d C, .str q.nm] ∧ d = .int q.n
theorem r_dates_of {C : Addr} {g : Gv} {q : Pm} (h : GvOk g) (hq : q ∈ g.ps) : R_dates_of C [g.d C, .str q.nm] (.int q.n) := ⟨g, q, h, hq, rfl, rfl⟩
theorem p_dates_of {C : Addr} (k : GK K C) : ∀ ds d, R_dates_of C ds d → St K (t_Grove_dates_of K) (ds.map Slot.val ++ List.replicate (N_Grove_dates_of.length - ds.length) .no) (Ret d) := by
  rintro _ _ ⟨g, q, h, hq, rfl, rfl⟩
  obtain ⟨ki, kt, kh, kp, km⟩ := k
  have kc := ki.cl
  have hx := dlk_tx h hq
  show St K _ [.val (g.d C), .val (.str q.nm)] _
  walk_at "ret"
  rfl
local macro_rules | `(tactic| walk_at "R") => `(tactic| exact r_dates_of (by walk_at "side") (by walk_at "side"))
def R_check_grove (C : Addr) (ds : List D) (d : D) : Prop := ∃ g : Gv, ds = [g.d C] ∧ d = .non
theorem r_check_grove {C : Addr} {g : Gv} : R_check_grove C [g.d C] .non := ⟨g, rfl, rfl⟩
theorem p_check_grove {C : Addr} (k : GK K C) : ∀ ds d, R_check_grove C ds d → St K (t_check_grove K C) (ds.map Slot.val ++ List.replicate (N_check_grove.length - ds.length) .no) (Ret d) := by
  rintro _ _ ⟨g, rfl, rfl⟩
  obtain ⟨ki, kt, kh, kp, km⟩ := k
  show St K _ [.val (g.d C)] _
  walk_at "chk"
local macro_rules | `(tactic| walk_at "R") => `(tactic| exact r_check_grove)
def R_check_palm (C : Addr) (ds : List D) (d : D) : Prop := ∃ (g : Gv) (q : Pm), GvOk g ∧ q ∈ g.ps ∧ ds = [g.d C, .str q.nm] ∧ d = .non
theorem r_check_palm {C : Addr} {g : Gv} {q : Pm} (h : GvOk g) (hq : q ∈ g.ps) : R_check_palm C [g.d C, .str q.nm] .non := ⟨g, q, h, hq, rfl, rfl⟩
theorem p_check_palm {C : Addr} (k : GK K C) : ∀ ds d, R_check_palm C ds d → St K (t_check_palm K C (spD K (R_check_grove C)) (spD K (R_palm_names C))) (ds.map Slot.val ++ List.replicate (N_check_palm.length - ds.length) .no) (Ret d) := by
  rintro _ _ ⟨g, q, h, hq, rfl, rfl⟩
  obtain ⟨ki, kt, kh, kp, km⟩ := k
  have hn : q.nm ∈ names g := List.mem_map_of_mem hq
  show St K _ [.val (g.d C), .val (.str q.nm)] _
  walk_at "drop"
  walk_at "chk"
local macro_rules | `(tactic| walk_at "R") => `(tactic| exact r_check_palm (by walk_at "side") (by walk_at "side"))
/-- the palm's sign in the year is 1 -/
def bit (p : Str) (y : Int) : Bool := decide (p.cps.toList.getD (y % (p.length : Nat)).toNat 0 = 49)
def R_bears_in (C : Addr) (ds : List D) (d : D) : Prop := ∃ (g : Gv) (q : Pm) (y : Int), GvOk g ∧ q ∈ g.ps ∧ ds = [g.d C, .str q.nm, .int y] ∧ d = .bl (bit q.p y)
theorem r_bears_in {C : Addr} {g : Gv} {q : Pm} {y : Int} (h : GvOk g) (hq : q ∈ g.ps) : R_bears_in C [g.d C, .str q.nm, .int y] (.bl (bit q.p y)) := ⟨g, q, y, h, hq, rfl, rfl⟩
theorem atI_mod {p : Str} {y : Int} (h : 0 < p.length) : atI p.cps.toList (y % (p.length : Nat)) = some (p.cps.toList.getD (y % (p.length : Nat)).toNat 0) := by
  have m1 := Int.emod_nonneg y (b := (p.length : Nat)) (by omega)
  have m2 := Int.emod_lt_of_pos y (b := (p.length : Nat)) (by omega)
  obtain ⟨n, hn⟩ := Int.eq_ofNat_of_zero_le m1
  rw [hn]
  have hl : n < p.cps.toList.length := by
    have : p.length = p.cps.toList.length := by simp [Str.length]
    omega
  refine atI_nat ?_
  rw [Int.toNat_natCast, List.getD_eq_getElem?_getD, List.getElem?_eq_getElem hl]
  rfl
theorem one_eq : ("1" : Str) = ⟨#[49]⟩ := by decide
theorem p_bears_in {C : Addr} (k : GK K C) : ∀ ds d, R_bears_in C ds d → St K (t_bears_in K C (spD K (R_years_of C))) (ds.map Slot.val ++ List.replicate (N_bears_in.length - ds.length) .no) (Ret d) := by
  rintro _ _ ⟨g, q, y, h, hq, rfl, rfl⟩
  obtain ⟨⟨h1, h2, h3, h4⟩, h5⟩ := h.ok q hq
  have hz : q.p.length ≤ 100000 := by omega
  have hx := atI_mod (y := y) h1
  unfold t_bears_in
  rw [one_eq]
  show St K _ [.val (g.d C), .val (.str q.nm), .val (.int y), .no] _
  walk_at "asg"
  walk_at "ret"
  show D.bl _ = D.bl _
  congr 1
  simp [bit]
local macro_rules | `(tactic| walk_at "R") => `(tactic| exact r_bears_in (by walk_at "side") (by walk_at "side"))
def R_bears (C : Addr) (ds : List D) (d : D) : Prop := ∃ (g : Gv) (q : Pm) (y : Int), GvOk g ∧ q ∈ g.ps ∧ (0 ≤ y ∧ y ≤ 9999) ∧ ds = [g.d C, .str q.nm, .int y] ∧ d = .bl (bit q.p y)
theorem r_bears {C : Addr} {g : Gv} {q : Pm} {y : Int} (h : GvOk g) (hq : q ∈ g.ps) (hy : 0 ≤ y ∧ y ≤ 9999) : R_bears C [g.d C, .str q.nm, .int y] (.bl (bit q.p y)) := ⟨g, q, y, h, hq, hy, rfl, rfl⟩
theorem p_bears {C : Addr} : ∀ ds d, R_bears C ds d → St K (t_bears K (spD K (R_check_palm C)) (spD K R_check_year) (spD K (R_bears_in C))) (ds.map Slot.val ++ List.replicate (N_bears.length - ds.length) .no) (Ret d) := by
  rintro _ _ ⟨g, q, y, h, hq, hy, rfl, rfl⟩
  show St K _ [.val (g.d C), .val (.str q.nm), .val (.int y)] _
  walk_at "drop"
  walk_at "drop"
  walk_at "ret"
  rfl
local macro_rules | `(tactic| walk_at "R") => `(tactic| exact r_bears (by walk_at "side") (by walk_at "side") (by walk_at "side"))
/-- the baskets of a year -/
def bask (g : Gv) (y : Int) : Int := ((g.ps.filter fun q => bit q.p y).map Pm.n).sum
def R_baskets_in (C : Addr) (ds : List D) (d : D) : Prop := ∃ (g : Gv) (y : Int), GvOk g ∧ ds = [g.d C, .int y] ∧ d = .int (bask g y)
theorem r_baskets_in {C : Addr} {g : Gv} {y : Int} (h : GvOk g) : R_baskets_in C [g.d C, .int y] (.int (bask g y)) := ⟨g, y, h, rfl, rfl⟩
theorem p_baskets_in {C : Addr} : ∀ ds d, R_baskets_in C ds d → St K (t_baskets_in K C (spD K (R_palm_names C)) (spD K (R_bears_in C)) (spD K (R_dates_of C))) (ds.map Slot.val ++ List.replicate (N_baskets_in.length - ds.length) .no) (Ret d) := by
  rintro _ _ ⟨g, y, h, rfl, rfl⟩
  have hle := h.le
  show St K _ [.val (g.d C), .val (.int y), .no] _
  apply st_ret
  apply ev_cb
  · apply ea_cons
    · apply ev_fz
      apply en_lcI g.ps (fun q => D.str q.nm) (fun q => bit q.p y) (fun q => q.n)
      · walk_at "it"
      · simp [names, Function.comp_def]
      · trivial
      · omega
      · intro q hq
        apply ex3
        walk_at "gd"
        walk_at "et"
        intro hb
        walk_at "ev"
    · exact ea_nil
  · exact d_sum
  rfl
local macro_rules | `(tactic| walk_at "R") => `(tactic| exact r_baskets_in (by walk_at "side"))
def R_baskets (C : Addr) (ds : List D) (d : D) : Prop := ∃ (g : Gv) (y : Int), GvOk g ∧ (0 ≤ y ∧ y ≤ 9999) ∧ ds = [g.d C, .int y] ∧ d = .int (bask g y)
theorem r_baskets {C : Addr} {g : Gv} {y : Int} (h : GvOk g) (hy : 0 ≤ y ∧ y ≤ 9999) : R_baskets C [g.d C, .int y] (.int (bask g y)) := ⟨g, y, h, hy, rfl, rfl⟩
theorem p_baskets {C : Addr} : ∀ ds d, R_baskets C ds d → St K (t_baskets K (spD K (R_check_grove C)) (spD K R_check_year) (spD K (R_baskets_in C))) (ds.map Slot.val ++ List.replicate (N_baskets.length - ds.length) .no) (Ret d) := by
  rintro _ _ ⟨g, y, h, hy, rfl, rfl⟩
  show St K _ [.val (g.d C), .val (.int y)] _
  walk_at "drop"
  walk_at "drop"
  walk_at "ret"
  rfl
local macro_rules | `(tactic| walk_at "R") => `(tactic| exact r_baskets (by walk_at "side") (by walk_at "side"))
end K83

set_option Elab.async false
set_option linter.all false
set_option maxRecDepth 100000
set_option maxHeartbeats 4000000
set_option autoImplicit false
namespace K83
open PySem L2 Dl StX
open Evl (Ex fresh_back ex_rd)
variable {K : PySem.W.Frag}
local macro_rules | `(tactic| walk_at "side") => `(tactic| focus (first | assumption | rfl | exact Nat.le_of_ble_eq_true rfl | omega | decide | (simp; done) | (simp; omega)))
local macro_rules | `(tactic| walk_at "ix") => `(tactic| first | rfl | assumption | exact atI_nat (by focus (first | rfl | assumption | (simp; done))))
local macro_rules | `(tactic| walk_at "log") => `(tactic| first | assumption | exact mul_sm (by unfold Sm; omega) (by unfold Sm; omega) | exact log_sm2 (by unfold Sm; omega) | exact log_sm (by unfold Sm; omega) | decide)
local macro_rules | `(tactic| walk_at "R") => `(tactic| fail "no R")
local macro_rules | `(tactic| walk_at "r2") => `(tactic| first
  | exact d_add | exact d_sub | exact d_lt | exact d_le | exact d_gt | exact d_ge | exact d_eqI | exact d_neI | exact d_eqS | exact d_neS | exact d_eqB | exact d_neB
  | exact d_eqT2 | exact d_neT2 | exact d_eqTI | exact d_neTI | exact d_eqLI | exact d_neLI | (apply d_eqTS; assumption; assumption)
  | exact d_isN | exact d_ntN | exact d_isB | exact d_ntB
  | (apply d_mod; walk_at "side") | (apply d_div; walk_at "side"; walk_at "log") | (apply d_mul; walk_at "log") | (apply d_pow; walk_at "side"; walk_at "log")
  | exact d_inS | exact d_niS | exact d_inST | exact d_niST | exact d_inG | exact d_niG
  | (apply d_ixL; walk_at "ix") | (apply d_ixT; walk_at "ix") | (apply d_ixR; walk_at "ix") | (apply d_ixS; walk_at "side"; walk_at "ix") | (apply d_ixDs; walk_at "ix")
  | (apply d_inD; walk_at "side") | (apply d_niD; walk_at "side")
  | (apply d_addS; walk_at "side") | (apply d_addL; walk_at "side") | (apply d_addT; walk_at "side"))
local macro_rules | `(tactic| walk_at "ra") => `(tactic| first
  | exact d_lenL | exact d_lenT | (apply d_lenS; walk_at "side") | exact d_lenR | exact d_lenD | exact d_sum | exact d_all | exact d_any
  | (apply d_max; walk_at "side") | (apply d_min; walk_at "side") | exact d_max2 | exact d_min2 | exact d_abs | exact d_int | exact d_intB
  | (apply d_intS; walk_at "side"; walk_at "side") | (apply d_str; walk_at "log") | exact d_listL | exact d_listT | exact d_listD | exact d_tupL | exact d_sorted
  | (apply d_isiC; assumption)
  | exact d_isiTy (b := true) rfl (by decide +kernel) | exact d_isiTy (b := false) rfl (by decide +kernel))
local macro_rules | `(tactic| walk_at "gs") => `(tactic| first
  | exact gs_nil | (apply gs_cons; walk_at "gd"; walk_at "gs"))
local macro_rules | `(tactic| walk_at "gd") => `(tactic| first
  | exact gd_name (by decide) | (apply gd_tupU; walk_at "gs"; rfl) | (apply gd_lstU; walk_at "gs"; rfl))
local macro_rules | `(tactic| walk_at "ea") => `(tactic| first
  | exact ea_nil | (apply ea_cons; walk_at "ev"; walk_at "ea") | (apply ea_starT; walk_at "ev"; walk_at "ea") | (apply ea_starL; walk_at "ev"; walk_at "ea"))
local macro_rules | `(tactic| walk_at "eo") => `(tactic| first
  | exact eo_none | (apply eo_some; walk_at "ev"))
local macro_rules | `(tactic| walk_at "it") => `(tactic| first
  | (apply it_r1; walk_at "ea"; walk_at "side"; walk_at "side")
  | (apply it_r2; walk_at "ea"; walk_at "side"; walk_at "side"; walk_at "side"; walk_at "side")
  | (apply it_en; walk_at "ea"; first | exact Or.inl rfl | exact Or.inr rfl)
  | (apply it_zp; walk_at "ea"; (first | exact Or.inl rfl | exact Or.inr rfl); (first | exact Or.inl rfl | exact Or.inr rfl))
  | (apply it_anyL; walk_at "ev") | (apply it_anyT; walk_at "ev") | (apply it_anyS; walk_at "ev"))
local macro_rules | `(tactic| walk_at "hds") => `(tactic| first | rfl | exact (List.map_id _).symm)
local macro_rules | `(tactic| walk_at "turn1") => `(tactic| (intro a ha; apply ex2; walk_at "gd"; walk_at "ev"))
local macro_rules | `(tactic| walk_at "turn2") => `(tactic| (intro a ha; apply ex3; walk_at "gd"; walk_at "et"; (intro hb; walk_at "ev")))
local macro_rules | `(tactic| walk_at "lc") => `(tactic| first
  | (apply en_lc1I; walk_at "it"; walk_at "hds"; exact trivial; walk_at "side"; walk_at "turn1")
  | (apply en_lc1B; walk_at "it"; walk_at "hds"; exact trivial; walk_at "side"; walk_at "turn1")
  | (apply en_lc1S; walk_at "it"; walk_at "hds"; exact trivial; walk_at "side"; walk_at "turn1")
  | (apply en_lc1; walk_at "it"; walk_at "hds"; exact trivial; walk_at "side"; walk_at "turn1")
  | (apply en_lcI; walk_at "it"; walk_at "hds"; exact trivial; walk_at "side"; walk_at "turn2")
  | (apply en_lcS; walk_at "it"; walk_at "hds"; exact trivial; walk_at "side"; walk_at "turn2")
  | (apply en_lc; walk_at "it"; walk_at "hds"; exact trivial; walk_at "side"; walk_at "turn2"))
local macro_rules | `(tactic| walk_at "ev") => `(tactic| first
  | exact ev_int | exact ev_str | exact ev_bl | exact ev_non | exact ev_ty | exact ev_adr | exact ev_var rfl
  | (apply ev_op; walk_at "ev"; walk_at "ev"; walk_at "r2")
  | (apply ev_ixW; rfl; walk_at "ev"; rfl; walk_at "ix")
  | (apply ev_un; walk_at "ev"; exact d_uNeg)
  | (apply ev_cb; walk_at "ea"; walk_at "ra")
  | (apply ev_tup; walk_at "ea"; walk_at "side")
  | (apply ev_call; walk_at "ea"; walk_at "R")
  | (apply ev_meth; walk_at "ev"; decide; walk_at "ea"; walk_at "R")
  | (apply ev_prop; walk_at "ev"; walk_at "R")
  | (apply ev_fldS; walk_at "ev"; rfl; assumption; assumption)
  | (apply ev_eqE; walk_at "ev") | (apply ev_neE; walk_at "ev")
  | (apply ev_fz; walk_at "lc")
  | (apply ev_lst; walk_at "ea"; walk_at "side")
  | (apply ev_andV; walk_at "ev"; (intro h1; walk_at "ev"))
  | (apply ev_orV; walk_at "ev"; (intro h1; walk_at "ev"))
  | (apply ev_notV; walk_at "ev")
  | (apply ev_chain; walk_at "ev"; walk_at "ev"; walk_at "r2"; (intro h1; apply And.intro; walk_at "ev"; walk_at "r2"))
  | (apply ev_slL; walk_at "ev"; walk_at "eo"; walk_at "eo")
  | (apply ev_slT; walk_at "ev"; walk_at "eo"; walk_at "eo")
  | (apply ev_slS; walk_at "ev"; walk_at "eo"; walk_at "eo"; walk_at "side")
  | (apply ev_indexI; walk_at "ev"; walk_at "ev"; walk_at "side"))
local macro_rules | `(tactic| walk_at "et") => `(tactic| first
  | (apply et_test; walk_at "ev") | (apply et_B; walk_at "ev") | (apply et_not; walk_at "et")
  | (apply et_and; walk_at "et"; (intro h1; walk_at "et")) | (apply et_or; walk_at "et"; (intro h1; walk_at "et")) | exact et_yes)
local macro_rules | `(tactic| walk_at "nrm") => `(tactic| (try simp only [List.set_cons_succ, List.set_cons_zero]))
local macro_rules | `(tactic| walk_at "asg") => `(tactic| (apply q_asg; walk_at "ev"; walk_at "nrm"))
local macro_rules | `(tactic| walk_at "drop") => `(tactic| (apply q_drop; walk_at "ev"))
local macro_rules | `(tactic| walk_at "tup") => `(tactic| (apply q_tupU; walk_at "ev"; walk_at "gs"; rfl; walk_at "nrm"))
local macro_rules | `(tactic| walk_at "ret") => `(tactic| (apply st_ret; walk_at "ev"))
local macro_rules | `(tactic| walk_at "bf") => `(tactic| focus (first | rfl | (simp; done) | (simp; omega) | (simp [*]; done) | (simp [*]; omega)))
local macro_rules | `(tactic| walk_at "no") => `(tactic| (apply q_no; walk_at "et"; walk_at "bf"))
local macro_rules | `(tactic| walk_at "chk") => `(tactic| (apply st_chk; walk_at "et"; walk_at "bf"; rfl))
local macro_rules | `(tactic| walk_at "unl") => `(tactic| (apply q_lstU; walk_at "ev"; walk_at "gs"; rfl; walk_at "nrm"))
local macro_rules | `(tactic| walk_at "R") => `(tactic| exact r_is_integer)
local macro_rules | `(tactic| walk_at "R") => `(tactic| exact r_is_between)
local macro_rules | `(tactic| walk_at "R") => `(tactic| exact r_is_day)
local macro_rules | `(tactic| walk_at "R") => `(tactic| exact r_check_year (by walk_at "side"))
local macro_rules | `(tactic| walk_at "R") => `(tactic| exact r_check_number (by walk_at "side"))
local macro_rules | `(tactic| walk_at "R") => `(tactic| exact r_check_life (by walk_at "side"))
local macro_rules | `(tactic| walk_at "R") => `(tactic| exact r_are_plants_of (by walk_at "side") (by walk_at "side"))
local macro_rules | `(tactic| walk_at "R") => `(tactic| exact r_check_plants (by walk_at "side") (by walk_at "side"))
local macro_rules | `(tactic| walk_at "R") => `(tactic| exact r_bearing_by (by walk_at "side") (by walk_at "side"))
local macro_rules | `(tactic| walk_at "R") => `(tactic| exact r_bearing (by walk_at "side") (by walk_at "side") (by walk_at "side"))
local macro_rules | `(tactic| walk_at "R") => `(tactic| exact r_bearings_of (by walk_at "side") (by walk_at "side"))
local macro_rules | `(tactic| walk_at "R") => `(tactic| exact r_least_bearing (by walk_at "side") (by walk_at "side"))
local macro_rules | `(tactic| walk_at "R") => `(tactic| exact r_most_bearing (by walk_at "side") (by walk_at "side"))
local macro_rules | `(tactic| walk_at "R") => `(tactic| exact r_even_plants (by walk_at "side") (by walk_at "side"))
local macro_rules | `(tactic| walk_at "R") => `(tactic| exact r_most_always (by walk_at "side") (by walk_at "side"))
local macro_rules | `(tactic| walk_at "R") => `(tactic| exact r_best_plants (by walk_at "side") (by walk_at "side"))
local macro_rules | `(tactic| walk_at "R") => `(tactic| exact r_common (by walk_at "side") (by walk_at "side"))
local macro_rules | `(tactic| walk_at "R") => `(tactic| exact r_reduced (by walk_at "side") (by walk_at "side"))
local macro_rules | `(tactic| walk_at "R") => `(tactic| exact r_is_name (by walk_at "side"))
local macro_rules | `(tactic| walk_at "R") => `(tactic| exact r_read_integer (by walk_at "side"))
local macro_rules | `(tactic| walk_at "R") => `(tactic| exact r_is_pattern (by walk_at "side"))
local macro_rules | `(tactic| walk_at "R") => `(tactic| exact r_palm_in (by walk_at "side"))
local macro_rules | `(tactic| walk_at "R") => `(tactic| exact r_is_new (by walk_at "side") (by walk_at "side") (by walk_at "side") (by walk_at "side") (by walk_at "side"))
local macro_rules | `(tactic| walk_at "R") => `(tactic| exact r_palm_names)
local macro_rules | `(tactic| walk_at "R") => `(tactic| exact r_years_of (by walk_at "side") (by walk_at "side"))
local macro_rules | `(tactic| walk_at "R") => `(tactic| exact r_dates_of (by walk_at "side") (by walk_at "side"))
local macro_rules | `(tactic| walk_at "R") => `(tactic| exact r_check_grove)
local macro_rules | `(tactic| walk_at "R") => `(tactic| exact r_check_palm (by walk_at "side") (by walk_at "side"))
local macro_rules | `(tactic| walk_at "R") => `(tactic| exact r_bears_in (by walk_at "side") (by walk_at "side"))
local macro_rules | `(tactic| walk_at "R") => `(tactic| exact r_bears (by walk_at "side") (by walk_at "side") (by walk_at "side"))
local macro_rules | `(tactic| walk_at "R") => `(tactic| exact r_baskets_in (by walk_at "side"))
local macro_rules | `(tactic| walk_at "R") => `(tactic| exact r_baskets (by walk_at "side") (by walk_at "side"))
/-! the sixty years -/
def bitsP (p : Str) : List Bool := (List.range 60).map fun y => bit p (y : Nat)
def R_bits_of (C : Addr) (ds : List D) (d : D) : Prop := ∃ (g : Gv) (q : Pm), GvOk g ∧ q ∈ g.ps ∧ ds = [g.d C, .str q.nm] ∧ d = .lst ((bitsP q.p).map .bl)
theorem r_bits_of {C : Addr} {g : Gv} {q : Pm} (h : GvOk g) (hq : q ∈ g.ps) : R_bits_of C [g.d C, .str q.nm] (.lst ((bitsP q.p).map .bl)) := ⟨g, q, h, hq, rfl, rfl⟩
theorem p_bits_of {C : Addr} : ∀ ds d, R_bits_of C ds d → St K (t_bits_of K (spD K (R_bears_in C))) (ds.map Slot.val ++ List.replicate (N_bits_of.length - ds.length) .no) (Ret d) := by
  rintro _ _ ⟨g, q, h, hq, rfl, rfl⟩
  show St K _ [.val (g.d C), .val (.str q.nm), .no] _
  walk_at "ret"
  rfl
local macro_rules | `(tactic| walk_at "R") => `(tactic| exact r_bits_of (by walk_at "side") (by walk_at "side"))
/-- the years in which all of a lot bear -/
def yearsAll (qs : List Pm) : List Nat := (List.range 60).filter fun y => qs.all fun q => bit q.p (y : Nat)
def R_years_of_lot (C : Addr) (ds : List D) (d : D) : Prop := ∃ (g : Gv) (qs : List Pm), GvOk g ∧ (∀ q ∈ qs, q ∈ g.ps) ∧ qs.length ≤ 100 ∧ ds = [g.d C, .tup ((qs.map Pm.nm).map .str)] ∧ d = .lst ((yearsAll qs).map fun y => .int (y : Nat))
theorem r_years_of_lot {C : Addr} {g : Gv} {qs : List Pm} (h : GvOk g) (hq : ∀ q ∈ qs, q ∈ g.ps) (hl : qs.length ≤ 100) : R_years_of_lot C [g.d C, .tup ((qs.map Pm.nm).map .str)] (.lst ((yearsAll qs).map fun y => .int (y : Nat))) := ⟨g, qs, h, hq, hl, rfl, rfl⟩
theorem p_years_of_lot {C : Addr} : ∀ ds d, R_years_of_lot C ds d → St K (t_years_of_lot K (spD K (R_bits_of C))) (ds.map Slot.val ++ List.replicate (N_years_of_lot.length - ds.length) .no) (Ret d) := by
  rintro _ _ ⟨g, qs, h, hq, hl, rfl, rfl⟩
  show St K _ [.val (g.d C), .val (.tup ((qs.map Pm.nm).map .str)), .no, .no, .no, .no] _
  refine q_asg (d := .lst (qs.map fun q => .lst ((bitsP q.p).map .bl))) (env1 := [.val (g.d C), .val (.tup ((qs.map Pm.nm).map .str)), .no, .no, .no, .no]) ?_ ?_
  · apply ev_fz
    apply en_lc1 qs (fun q => D.str q.nm) (fun q => .lst ((bitsP q.p).map .bl))
    · walk_at "it"
    · simp [Function.comp_def]
    · trivial
    · omega
    · intro q hm
      have hm2 := hq q hm
      apply ex2
      walk_at "gd"
      walk_at "ev"
  walk_at "nrm"
  apply st_ret
  · apply ev_fz
    apply en_lc (List.range 60) (fun y => D.int (y : Nat)) (fun y => qs.all fun q => bit q.p (y : Nat)) (fun y => .int (y : Nat))
    · walk_at "it"
    · rfl
    · trivial
    · decide
    · intro y hy
      have hy : y < 60 := by simpa using hy
      apply ex3
      walk_at "gd"
      · apply et_B
        apply ev_is
        · apply ev_cb
          · apply ea_cons
            · apply ev_fz
              apply en_lc1B qs (fun q => D.lst ((bitsP q.p).map .bl)) (fun q => bit q.p (y : Nat))
              · walk_at "it"
              · rfl
              · trivial
              · omega
              · intro q hm
                have hx : ((bitsP q.p).map D.bl)[y]? = some (.bl (bit q.p (y : Nat))) := by
                  rw [List.getElem?_map, bitsP, List.getElem?_map, List.getElem?_range hy]; rfl
                have hx2 := atI_nat hx
                apply ex2
                walk_at "gd"
                walk_at "ev"
            · exact ea_nil
          · exact d_all
        · simp [List.all_map, Function.comp_def]
      · intro hb
        walk_at "ev"
  rfl
local macro_rules | `(tactic| walk_at "R") => `(tactic| exact r_years_of_lot (by walk_at "side") (by walk_at "side") (by walk_at "side"))
/-! a lot: here, all the palms -/
def R_is_some_lot (C : Addr) (ds : List D) (d : D) : Prop := ∃ (g : Gv), GvOk g ∧ ds = [g.d C, .tup ((names g).map .str)] ∧ d = .bl true
theorem r_is_some_lot {C : Addr} {g : Gv} (h : GvOk g) : R_is_some_lot C [g.d C, .tup ((names g).map .str)] (.bl true) := ⟨g, h, rfl, rfl⟩
theorem NmOk.ok {x : Str} (h : NmOk x) : PyData.strOk x = true := by
  have k1 : ∀ c ∈ ("abcdefghijklmnopqrstuvwxyz" : Str).cps.toList, c < 0x110000 := by decide
  have k2 : ∀ c ∈ ("0123456789" : Str).cps.toList, c < 0x110000 := by decide
  unfold PyData.strOk
  rw [Array.all_eq_true_iff_forall_mem]
  intro c hc
  have := h.2.2 c (by simpa using hc)
  exact decide_eq_true (this.elim (k1 c) (k2 c))
theorem p_is_some_lot {C : Addr} : ∀ ds d, R_is_some_lot C ds d → St K (t_is_some_lot K C (spD K (R_palm_names C))) (ds.map Slot.val ++ List.replicate (N_is_some_lot.length - ds.length) .no) (Ret d) := by
  rintro _ _ ⟨g, h, rfl, rfl⟩
  have hle : (names g).length ≤ 12 := by simpa [names] using h.le
  show St K _ [.val (g.d C), .val (.tup ((names g).map .str)), .no] _
  apply q_no
  · apply et_or
    · walk_at "et"
    · intro h1
      apply et_not
      apply et_B
      apply ev_cb
      · apply ea_cons
        · apply ev_fz
          apply en_lc1B (names g) (fun q => D.str q) (fun q => true)
          · walk_at "it"
          · rfl
          · trivial
          · omega
          · intro q hm
            apply ex2
            walk_at "gd"
            walk_at "ev"
        · exact ea_nil
      · exact d_all
  · simp
  have hs : ∀ x ∈ names g, PyData.strOk x = true := fun x hx => by
    obtain ⟨q, hq, rfl⟩ := List.mem_map.mp hx
    exact (h.nm q hq).ok
  refine st_ret (d := .bl true) (env1 := [.val (g.d C), .val (.tup ((names g).map .str)), .no]) (ev_is (d := .bl (decide (names g = names g))) (ev_op (b := .tup ((names g).map .str)) (by walk_at "ev") (ev_cb (ea_cons (ev_is (d := .lst (((names g).filter fun _ => true).map .str)) (c := .lst ((names g).map .str)) (ev_fz ?_) ?_) ea_nil) d_tupL) (d_eqTS hs hs)) (by simp)) rfl
  · apply en_is
    apply en_lcS (names g) (fun q => D.str q) (fun q => true) (fun q => q)
    · walk_at "it"
    · rfl
    · trivial
    · omega
    · intro q hm
      apply ex3
      walk_at "gd"
      · apply et_is
        · walk_at "et"
        · simpa using hm
      · intro hb
        walk_at "ev"
    · simp
  · rw [List.filter_eq_self.mpr fun _ _ => rfl]
local macro_rules | `(tactic| walk_at "R") => `(tactic| exact r_is_some_lot (by walk_at "side"))
def R_years_all (C : Addr) (ds : List D) (d : D) : Prop := ∃ (g : Gv), GvOk g ∧ ds = [g.d C, .tup ((names g).map .str)] ∧ d = .tup ((yearsAll g.ps).map fun y => .int (y : Nat))
theorem r_years_all {C : Addr} {g : Gv} (h : GvOk g) : R_years_all C [g.d C, .tup ((names g).map .str)] (.tup ((yearsAll g.ps).map fun y => .int (y : Nat))) := ⟨g, h, rfl, rfl⟩
theorem p_years_all {C : Addr} : ∀ ds d, R_years_all C ds d → St K (t_years_all K (spD K (R_check_grove C)) (spD K (R_is_some_lot C)) (spD K (R_years_of_lot C))) (ds.map Slot.val ++ List.replicate (N_years_all.length - ds.length) .no) (Ret d) := by
  rintro _ _ ⟨g, h, rfl, rfl⟩
  have hle := h.le
  show St K _ [.val (g.d C), .val (.tup ((names g).map .str))] _
  walk_at "drop"
  walk_at "no"
  refine st_ret (ev_cb (ea_cons (ev_call (ea_cons (by walk_at "ev") (ea_cons (by walk_at "ev") ea_nil)) (r_years_of_lot (qs := g.ps) h (fun _ hq => hq) (by omega))) ea_nil) d_tupL) rfl
local macro_rules | `(tactic| walk_at "R") => `(tactic| exact r_years_all (by walk_at "side"))
/-! the sums -/
def sums (g : Gv) : List Int := (List.range 60).map fun y => bask g (y : Nat)
theorem sums_ne (g : Gv) : sums g ≠ [] := by
  intro e
  have : (sums g).length = 0 := by rw [e]; rfl
  simp [sums] at this
def R_sums_of (C : Addr) (ds : List D) (d : D) : Prop := ∃ (g : Gv), GvOk g ∧ ds = [g.d C] ∧ d = .lst ((sums g).map .int)
theorem r_sums_of {C : Addr} {g : Gv} (h : GvOk g) : R_sums_of C [g.d C] (.lst ((sums g).map .int)) := ⟨g, h, rfl, rfl⟩
theorem p_sums_of {C : Addr} : ∀ ds d, R_sums_of C ds d → St K (t_sums_of K (spD K (R_baskets_in C))) (ds.map Slot.val ++ List.replicate (N_sums_of.length - ds.length) .no) (Ret d) := by
  rintro _ _ ⟨g, h, rfl, rfl⟩
  show St K _ [.val (g.d C), .no] _
  walk_at "ret"
  rfl
local macro_rules | `(tactic| walk_at "R") => `(tactic| exact r_sums_of (by walk_at "side"))
def R_most_baskets (C : Addr) (ds : List D) (d : D) : Prop := ∃ (g : Gv), GvOk g ∧ ds = [g.d C] ∧ d = .tup [.int (mxL (sums g)), .int ((sums g).idxOf (mxL (sums g)) : Nat)]
theorem r_most_baskets {C : Addr} {g : Gv} (h : GvOk g) : R_most_baskets C [g.d C] (.tup [.int (mxL (sums g)), .int ((sums g).idxOf (mxL (sums g)) : Nat)]) := ⟨g, h, rfl, rfl⟩
theorem p_most_baskets {C : Addr} : ∀ ds d, R_most_baskets C ds d → St K (t_most_baskets K (spD K (R_check_grove C)) (spD K (R_sums_of C))) (ds.map Slot.val ++ List.replicate (N_most_baskets.length - ds.length) .no) (Ret d) := by
  rintro _ _ ⟨g, h, rfl, rfl⟩
  have hne := sums_ne g
  have hm := mxL_mem hne
  show St K _ [.val (g.d C), .no] _
  walk_at "drop"
  walk_at "asg"
  walk_at "ret"
  rfl
local macro_rules | `(tactic| walk_at "R") => `(tactic| exact r_most_baskets (by walk_at "side"))
def R_least_baskets (C : Addr) (ds : List D) (d : D) : Prop := ∃ (g : Gv), GvOk g ∧ ds = [g.d C] ∧ d = .tup [.int (mnL (sums g)), .int ((sums g).idxOf (mnL (sums g)) : Nat)]
theorem r_least_baskets {C : Addr} {g : Gv} (h : GvOk g) : R_least_baskets C [g.d C] (.tup [.int (mnL (sums g)), .int ((sums g).idxOf (mnL (sums g)) : Nat)]) := ⟨g, h, rfl, rfl⟩
theorem p_least_baskets {C : Addr} : ∀ ds d, R_least_baskets C ds d → St K (t_least_baskets K (spD K (R_check_grove C)) (spD K (R_sums_of C))) (ds.map Slot.val ++ List.replicate (N_least_baskets.length - ds.length) .no) (Ret d) := by
  rintro _ _ ⟨g, h, rfl, rfl⟩
  have hne := sums_ne g
  have hm := mnL_mem hne
  show St K _ [.val (g.d C), .no] _
  walk_at "drop"
  walk_at "asg"
  walk_at "ret"
  rfl
local macro_rules | `(tactic| walk_at "R") => `(tactic| exact r_least_baskets (by walk_at "side"))
theorem sum_bd : ∀ {l : List Int} {m : Int}, (∀ x ∈ l, 0 ≤ x ∧ x ≤ m) → 0 ≤ l.sum ∧ l.sum ≤ m * (l.length : Nat)
  | [], m, _ => by simp
  | a :: l, m, h => by
    have h1 := h a List.mem_cons_self
    have h2 := sum_bd fun x hx => h x (List.mem_cons_of_mem _ hx)
    rw [List.sum_cons, List.length_cons]
    have e : m * ((l.length + 1 : Nat) : Int) = m * (l.length : Nat) + m := by rw [Int.natCast_add, Int.mul_add]; simp
    omega
theorem bask_bd {g : Gv} (h : GvOk g) (y : Int) : 0 ≤ bask g y ∧ bask g y ≤ 1188 := by
  have h1 : ∀ x ∈ ((g.ps.filter fun q => bit q.p y).map Pm.n), 0 ≤ x ∧ x ≤ 99 := fun x hx => by
    obtain ⟨q, hq, rfl⟩ := List.mem_map.mp hx
    exact (h.ok q (List.mem_filter.mp hq |>.1)).2
  have h2 := sum_bd h1
  have h3 : ((g.ps.filter fun q => bit q.p y).map Pm.n).length ≤ 12 := by
    rw [List.length_map]; exact Nat.le_trans (List.length_filter_le _ _) h.le
  unfold bask
  omega
theorem sums_bd {g : Gv} (h : GvOk g) : 0 ≤ (sums g).sum ∧ (sums g).sum ≤ 1000000000 := by
  have h1 : ∀ x ∈ sums g, 0 ≤ x ∧ x ≤ 1188 := fun x hx => by
    obtain ⟨q, hq, rfl⟩ := List.mem_map.mp hx
    exact bask_bd h _
  have h2 := sum_bd h1
  have h3 : (sums g).length = 60 := by simp [sums]
  rw [h3] at h2
  omega
def R_mean_baskets (C : Addr) (ds : List D) (d : D) : Prop := ∃ (g : Gv), GvOk g ∧ ds = [g.d C] ∧ d = .tup [.int ((sums g).sum / (Int.gcd (sums g).sum 60 : Nat)), .int (60 / (Int.gcd (sums g).sum 60 : Nat))]
theorem r_mean_baskets {C : Addr} {g : Gv} (h : GvOk g) : R_mean_baskets C [g.d C] (.tup [.int ((sums g).sum / (Int.gcd (sums g).sum 60 : Nat)), .int (60 / (Int.gcd (sums g).sum 60 : Nat))]) := ⟨g, h, rfl, rfl⟩
theorem p_mean_baskets {C : Addr} : ∀ ds d, R_mean_baskets C ds d → St K (t_mean_baskets K (spD K (R_check_grove C)) (spD K R_reduced) (spD K (R_sums_of C))) (ds.map Slot.val ++ List.replicate (N_mean_baskets.length - ds.length) .no) (Ret d) := by
  rintro _ _ ⟨g, h, rfl, rfl⟩
  have hb := sums_bd h
  show St K _ [.val (g.d C)] _
  walk_at "drop"
  walk_at "ret"
  rfl
local macro_rules | `(tactic| walk_at "R") => `(tactic| exact r_mean_baskets (by walk_at "side"))
end K83

set_option Elab.async false
set_option linter.all false
set_option maxRecDepth 100000
set_option maxHeartbeats 4000000
set_option autoImplicit false
namespace K83
open PySem L2 Dl StX
open Evl (Ex fresh_back ex_rd)
variable {K : PySem.W.Frag}
local macro_rules | `(tactic| walk_at "side") => `(tactic| focus (first | assumption | rfl | exact Nat.le_of_ble_eq_true rfl | omega | decide | (simp; done) | (simp; omega)))
local macro_rules | `(tactic| walk_at "ix") => `(tactic| first | rfl | assumption | exact atI_nat (by focus (first | rfl | assumption | (simp; done))))
local macro_rules | `(tactic| walk_at "log") => `(tactic| first | assumption | exact mul_sm (by unfold Sm; omega) (by unfold Sm; omega) | exact log_sm2 (by unfold Sm; omega) | exact log_sm (by unfold Sm; omega) | decide)
local macro_rules | `(tactic| walk_at "R") => `(tactic| fail "no R")
local macro_rules | `(tactic| walk_at "r2") => `(tactic| first
  | exact d_add | exact d_sub | exact d_lt | exact d_le | exact d_gt | exact d_ge | exact d_eqI | exact d_neI | exact d_eqS | exact d_neS | exact d_eqB | exact d_neB
  | exact d_eqT2 | exact d_neT2 | exact d_eqTI | exact d_neTI | exact d_eqLI | exact d_neLI | (apply d_eqTS; assumption; assumption)
  | exact d_isN | exact d_ntN | exact d_isB | exact d_ntB
  | (apply d_mod; walk_at "side") | (apply d_div; walk_at "side"; walk_at "log") | (apply d_mul; walk_at "log") | (apply d_pow; walk_at "side"; walk_at "log")
  | exact d_inS | exact d_niS | exact d_inST | exact d_niST | exact d_inG | exact d_niG
  | (apply d_ixL; walk_at "ix") | (apply d_ixT; walk_at "ix") | (apply d_ixR; walk_at "ix") | (apply d_ixS; walk_at "side"; walk_at "ix") | (apply d_ixDs; walk_at "ix")
  | (apply d_inD; walk_at "side") | (apply d_niD; walk_at "side")
  | (apply d_addS; walk_at "side") | (apply d_addL; walk_at "side") | (apply d_addT; walk_at "side"))
local macro_rules | `(tactic| walk_at "ra") => `(tactic| first
  | exact d_lenL | exact d_lenT | (apply d_lenS; walk_at "side") | exact d_lenR | exact d_lenD | exact d_sum | exact d_all | exact d_any
  | (apply d_max; walk_at "side") | (apply d_min; walk_at "side") | exact d_max2 | exact d_min2 | exact d_abs | exact d_int | exact d_intB
  | (apply d_intS; walk_at "side"; walk_at "side") | (apply d_str; walk_at "log") | exact d_listL | exact d_listT | exact d_listD | exact d_tupL | exact d_sorted
  | (apply d_isiC; assumption)
  | exact d_isiTy (b := true) rfl (by decide +kernel) | exact d_isiTy (b := false) rfl (by decide +kernel))
local macro_rules | `(tactic| walk_at "gs") => `(tactic| first
  | exact gs_nil | (apply gs_cons; walk_at "gd"; walk_at "gs"))
local macro_rules | `(tactic| walk_at "gd") => `(tactic| first
  | exact gd_name (by decide) | (apply gd_tupU; walk_at "gs"; rfl) | (apply gd_lstU; walk_at "gs"; rfl))
local macro_rules | `(tactic| walk_at "ea") => `(tactic| first
  | exact ea_nil | (apply ea_cons; walk_at "ev"; walk_at "ea") | (apply ea_starT; walk_at "ev"; walk_at "ea") | (apply ea_starL; walk_at "ev"; walk_at "ea"))
local macro_rules | `(tactic| walk_at "eo") => `(tactic| first
  | exact eo_none | (apply eo_some; walk_at "ev"))
local macro_rules | `(tactic| walk_at "it") => `(tactic| first
  | (apply it_r1; walk_at "ea"; walk_at "side"; walk_at "side")
  | (apply it_r2; walk_at "ea"; walk_at "side"; walk_at "side"; walk_at "side"; walk_at "side")
  | (apply it_en; walk_at "ea"; first | exact Or.inl rfl | exact Or.inr rfl)
  | (apply it_zp; walk_at "ea"; (first | exact Or.inl rfl | exact Or.inr rfl); (first | exact Or.inl rfl | exact Or.inr rfl))
  | (apply it_anyL; walk_at "ev") | (apply it_anyT; walk_at "ev") | (apply it_anyS; walk_at "ev"))
local macro_rules | `(tactic| walk_at "hds") => `(tactic| first | rfl | exact (List.map_id _).symm)
local macro_rules | `(tactic| walk_at "turn1") => `(tactic| (intro a ha; apply ex2; walk_at "gd"; walk_at "ev"))
local macro_rules | `(tactic| walk_at "turn2") => `(tactic| (intro a ha; apply ex3; walk_at "gd"; walk_at "et"; (intro hb; walk_at "ev")))
local macro_rules | `(tactic| walk_at "lc") => `(tactic| first
  | (apply en_lc1I; walk_at "it"; walk_at "hds"; exact trivial; walk_at "side"; walk_at "turn1")
  | (apply en_lc1B; walk_at "it"; walk_at "hds"; exact trivial; walk_at "side"; walk_at "turn1")
  | (apply en_lc1S; walk_at "it"; walk_at "hds"; exact trivial; walk_at "side"; walk_at "turn1")
  | (apply en_lc1; walk_at "it"; walk_at "hds"; exact trivial; walk_at "side"; walk_at "turn1")
  | (apply en_lcI; walk_at "it"; walk_at "hds"; exact trivial; walk_at "side"; walk_at "turn2")
  | (apply en_lcS; walk_at "it"; walk_at "hds"; exact trivial; walk_at "side"; walk_at "turn2")
  | (apply en_lc; walk_at "it"; walk_at "hds"; exact trivial; walk_at "side"; walk_at "turn2"))
local macro_rules | `(tactic| walk_at "ev") => `(tactic| first
  | exact ev_int | exact ev_str | exact ev_bl | exact ev_non | exact ev_ty | exact ev_adr | exact ev_var rfl
  | (apply ev_op; walk_at "ev"; walk_at "ev"; walk_at "r2")
  | (apply ev_ixW; rfl; walk_at "ev"; rfl; walk_at "ix")
  | (apply ev_un; walk_at "ev"; exact d_uNeg)
  | (apply ev_cb; walk_at "ea"; walk_at "ra")
  | (apply ev_tup; walk_at "ea"; walk_at "side")
  | (apply ev_call; walk_at "ea"; walk_at "R")
  | (apply ev_meth; walk_at "ev"; decide; walk_at "ea"; walk_at "R")
  | (apply ev_prop; walk_at "ev"; walk_at "R")
  | (apply ev_fldS; walk_at "ev"; rfl; assumption; assumption)
  | (apply ev_eqE; walk_at "ev") | (apply ev_neE; walk_at "ev")
  | (apply ev_fz; walk_at "lc")
  | (apply ev_lst; walk_at "ea"; walk_at "side")
  | (apply ev_andV; walk_at "ev"; (intro h1; walk_at "ev"))
  | (apply ev_orV; walk_at "ev"; (intro h1; walk_at "ev"))
  | (apply ev_notV; walk_at "ev")
  | (apply ev_chain; walk_at "ev"; walk_at "ev"; walk_at "r2"; (intro h1; apply And.intro; walk_at "ev"; walk_at "r2"))
  | (apply ev_slL; walk_at "ev"; walk_at "eo"; walk_at "eo")
  | (apply ev_slT; walk_at "ev"; walk_at "eo"; walk_at "eo")
  | (apply ev_slS; walk_at "ev"; walk_at "eo"; walk_at "eo"; walk_at "side")
  | (apply ev_indexI; walk_at "ev"; walk_at "ev"; walk_at "side"))
local macro_rules | `(tactic| walk_at "et") => `(tactic| first
  | (apply et_test; walk_at "ev") | (apply et_B; walk_at "ev") | (apply et_not; walk_at "et")
  | (apply et_and; walk_at "et"; (intro h1; walk_at "et")) | (apply et_or; walk_at "et"; (intro h1; walk_at "et")) | exact et_yes)
local macro_rules | `(tactic| walk_at "nrm") => `(tactic| (try simp only [List.set_cons_succ, List.set_cons_zero]))
local macro_rules | `(tactic| walk_at "asg") => `(tactic| (apply q_asg; walk_at "ev"; walk_at "nrm"))
local macro_rules | `(tactic| walk_at "drop") => `(tactic| (apply q_drop; walk_at "ev"))
local macro_rules | `(tactic| walk_at "tup") => `(tactic| (apply q_tupU; walk_at "ev"; walk_at "gs"; rfl; walk_at "nrm"))
local macro_rules | `(tactic| walk_at "ret") => `(tactic| (apply st_ret; walk_at "ev"))
local macro_rules | `(tactic| walk_at "bf") => `(tactic| focus (first | rfl | (simp; done) | (simp; omega) | (simp [*]; done) | (simp [*]; omega)))
local macro_rules | `(tactic| walk_at "no") => `(tactic| (apply q_no; walk_at "et"; walk_at "bf"))
local macro_rules | `(tactic| walk_at "chk") => `(tactic| (apply st_chk; walk_at "et"; walk_at "bf"; rfl))
local macro_rules | `(tactic| walk_at "unl") => `(tactic| (apply q_lstU; walk_at "ev"; walk_at "gs"; rfl; walk_at "nrm"))
local macro_rules | `(tactic| walk_at "R") => `(tactic| exact r_is_integer)
local macro_rules | `(tactic| walk_at "R") => `(tactic| exact r_is_between)
local macro_rules | `(tactic| walk_at "R") => `(tactic| exact r_is_day)
local macro_rules | `(tactic| walk_at "R") => `(tactic| exact r_check_year (by walk_at "side"))
local macro_rules | `(tactic| walk_at "R") => `(tactic| exact r_check_number (by walk_at "side"))
local macro_rules | `(tactic| walk_at "R") => `(tactic| exact r_check_life (by walk_at "side"))
local macro_rules | `(tactic| walk_at "R") => `(tactic| exact r_are_plants_of (by walk_at "side") (by walk_at "side"))
local macro_rules | `(tactic| walk_at "R") => `(tactic| exact r_check_plants (by walk_at "side") (by walk_at "side"))
local macro_rules | `(tactic| walk_at "R") => `(tactic| exact r_bearing_by (by walk_at "side") (by walk_at "side"))
local macro_rules | `(tactic| walk_at "R") => `(tactic| exact r_bearing (by walk_at "side") (by walk_at "side") (by walk_at "side"))
local macro_rules | `(tactic| walk_at "R") => `(tactic| exact r_bearings_of (by walk_at "side") (by walk_at "side"))
local macro_rules | `(tactic| walk_at "R") => `(tactic| exact r_least_bearing (by walk_at "side") (by walk_at "side"))
local macro_rules | `(tactic| walk_at "R") => `(tactic| exact r_most_bearing (by walk_at "side") (by walk_at "side"))
local macro_rules | `(tactic| walk_at "R") => `(tactic| exact r_even_plants (by walk_at "side") (by walk_at "side"))
local macro_rules | `(tactic| walk_at "R") => `(tactic| exact r_most_always (by walk_at "side") (by walk_at "side"))
local macro_rules | `(tactic| walk_at "R") => `(tactic| exact r_best_plants (by walk_at "side") (by walk_at "side"))
local macro_rules | `(tactic| walk_at "R") => `(tactic| exact r_common (by walk_at "side") (by walk_at "side"))
local macro_rules | `(tactic| walk_at "R") => `(tactic| exact r_reduced (by walk_at "side") (by walk_at "side"))
local macro_rules | `(tactic| walk_at "R") => `(tactic| exact r_is_name (by walk_at "side"))
local macro_rules | `(tactic| walk_at "R") => `(tactic| exact r_read_integer (by walk_at "side"))
local macro_rules | `(tactic| walk_at "R") => `(tactic| exact r_is_pattern (by walk_at "side"))
local macro_rules | `(tactic| walk_at "R") => `(tactic| exact r_palm_in (by walk_at "side"))
local macro_rules | `(tactic| walk_at "R") => `(tactic| exact r_is_new (by walk_at "side") (by walk_at "side") (by walk_at "side") (by walk_at "side") (by walk_at "side"))
local macro_rules | `(tactic| walk_at "R") => `(tactic| exact r_palm_names)
local macro_rules | `(tactic| walk_at "R") => `(tactic| exact r_years_of (by walk_at "side") (by walk_at "side"))
local macro_rules | `(tactic| walk_at "R") => `(tactic| exact r_dates_of (by walk_at "side") (by walk_at "side"))
local macro_rules | `(tactic| walk_at "R") => `(tactic| exact r_check_grove)
local macro_rules | `(tactic| walk_at "R") => `(tactic| exact r_check_palm (by walk_at "side") (by walk_at "side"))
local macro_rules | `(tactic| walk_at "R") => `(tactic| exact r_bears_in (by walk_at "side") (by walk_at "side"))
local macro_rules | `(tactic| walk_at "R") => `(tactic| exact r_bears (by walk_at "side") (by walk_at "side") (by walk_at "side"))
local macro_rules | `(tactic| walk_at "R") => `(tactic| exact r_baskets_in (by walk_at "side"))
local macro_rules | `(tactic| walk_at "R") => `(tactic| exact r_baskets (by walk_at "side") (by walk_at "side"))
local macro_rules | `(tactic| walk_at "R") => `(tactic| exact r_bits_of (by walk_at "side") (by walk_at "side"))
local macro_rules | `(tactic| walk_at "R") => `(tactic| exact r_years_of_lot (by walk_at "side") (by walk_at "side") (by walk_at "side"))
local macro_rules | `(tactic| walk_at "R") => `(tactic| exact r_is_some_lot (by walk_at "side"))
local macro_rules | `(tactic| walk_at "R") => `(tactic| exact r_years_all (by walk_at "side"))
local macro_rules | `(tactic| walk_at "R") => `(tactic| exact r_sums_of (by walk_at "side"))
local macro_rules | `(tactic| walk_at "R") => `(tactic| exact r_most_baskets (by walk_at "side"))
local macro_rules | `(tactic| walk_at "R") => `(tactic| exact r_least_baskets (by walk_at "side"))
local macro_rules | `(tactic| walk_at "R") => `(tactic| exact r_mean_baskets (by walk_at "side"))
/-! the shifts -/
def lens (g : Gv) : List Int := g.ps.map fun q => ((q.p.length : Nat) : Int)
def R_lengths_of (C : Addr) (ds : List D) (d : D) : Prop := ∃ (g : Gv), GvOk g ∧ ds = [g.d C] ∧ d = .lst ((lens g).map .int)
theorem r_lengths_of {C : Addr} {g : Gv} (h : GvOk g) : R_lengths_of C [g.d C] (.lst ((lens g).map .int)) := ⟨g, h, rfl, rfl⟩
theorem p_lengths_of {C : Addr} : ∀ ds d, R_lengths_of C ds d → St K (t_lengths_of K C (spD K (R_palm_names C)) (spD K (R_years_of C))) (ds.map Slot.val ++ List.replicate (N_lengths_of.length - ds.length) .no) (Ret d) := by
  rintro _ _ ⟨g, h, rfl, rfl⟩
  have hle := h.le
  show St K _ [.val (g.d C), .no] _
  refine st_ret (d := .lst ((lens g).map .int)) (env1 := [.val (g.d C), .no]) (ev_fz ?_) rfl
  apply en_lc1I g.ps (fun q => D.str q.nm) (fun q => ((q.p.length : Nat) : Int))
  · walk_at "it"
  · simp [names, Function.comp_def]
  · trivial
  · omega
  · intro q hq
    obtain ⟨⟨h1, h2, h3, h4⟩, h5⟩ := h.ok q hq
    have hz : q.p.length ≤ 100000 := by omega
    apply ex2
    walk_at "gd"
    walk_at "ev"
local macro_rules | `(tactic| walk_at "R") => `(tactic| exact r_lengths_of (by walk_at "side"))
def prodL (l : List Int) : Int := l.foldl (· * ·) 1
theorem prodL_snoc {l : List Int} {x : Int} : prodL (l ++ [x]) = prodL l * x := by simp [prodL, List.foldl_append]
theorem take_snoc {α : Type} {l : List α} {i : Nat} {x : α} (h : l[i]? = some x) : l.take (i + 1) = l.take i ++ [x] := by rw [List.take_add_one, h]; rfl
theorem lens_bd {g : Gv} (h : GvOk g) : ∀ x ∈ lens g, 1 ≤ x ∧ x ≤ 6 := fun x hx => by
  obtain ⟨q, hq, rfl⟩ := List.mem_map.mp hx
  obtain ⟨⟨h1, h2, h3, h4⟩, h5⟩ := h.ok q hq
  omega
theorem prodL_bd : ∀ (n : Nat) {l : List Int}, (∀ x ∈ l, 1 ≤ x ∧ x ≤ 6) → 1 ≤ prodL (l.take n) ∧ prodL (l.take n) ≤ 6 ^ n
  | 0, l, h => by simp [prodL]
  | n + 1, l, h => by
    have ih := prodL_bd n h
    rcases Nat.lt_or_ge n l.length with z | z
    · rw [take_snoc (List.getElem?_eq_getElem z), prodL_snoc]
      have hx := h _ (List.getElem_mem z)
      generalize l[n] = x at hx
      refine ⟨?_, ?_⟩
      · have := Int.mul_le_mul ih.1 hx.1 (by omega) (by omega)
        omega
      · rw [Int.pow_succ]
        exact Int.mul_le_mul ih.2 hx.2 (by omega) (by omega)
    · rw [List.take_of_length_le (by omega)]
      rw [List.take_of_length_le (by omega)] at ih
      refine ⟨ih.1, Int.le_trans ih.2 ?_⟩
      rw [Int.pow_succ]
      omega
theorem prodL_mono {l : List Int} (h : ∀ x ∈ l, 1 ≤ x ∧ x ≤ 6) : ∀ (k n : Nat), prodL (l.take n) ≤ prodL (l.take (n + k))
  | 0, n => Int.le_refl _
  | k + 1, n => by
    refine Int.le_trans (prodL_mono h k n) ?_
    rw [show n + (k + 1) = (n + k) + 1 by omega]
    rcases Nat.lt_or_ge (n + k) l.length with z | z
    · rw [take_snoc (List.getElem?_eq_getElem z), prodL_snoc]
      have hx := h _ (List.getElem_mem z)
      have hp := prodL_bd (n + k) h
      generalize l[n + k] = x at hx
      generalize prodL (l.take (n + k)) = y at hp
      have := Int.mul_le_mul_of_nonneg_left hx.1 (show 0 ≤ y by omega)
      omega
    · rw [List.take_of_length_le (by omega), List.take_of_length_le (by omega)]
      exact Int.le_refl _
theorem prodL_pre {l : List Int} (h : ∀ x ∈ l, 1 ≤ x ∧ x ≤ 6) (n : Nat) : prodL (l.take n) ≤ prodL l := by
  have := prodL_mono h (l.length) n
  rwa [List.take_of_length_le (show l.length ≤ n + l.length by omega)] at this
def R_shift_count (C : Addr) (ds : List D) (d : D) : Prop := ∃ (g : Gv), GvOk g ∧ ds = [g.d C] ∧ d = .int (prodL (lens g))
theorem r_shift_count {C : Addr} {g : Gv} (h : GvOk g) : R_shift_count C [g.d C] (.int (prodL (lens g))) := ⟨g, h, rfl, rfl⟩
theorem pow6 {n : Nat} (h : n ≤ 12) : (6 : Int) ^ n ≤ 2176782336 := by
  have : ∀ m, m ≤ 12 → (6 : Int) ^ m ≤ 2176782336 := by decide
  exact this n h
theorem p_shift_count {C : Addr} : ∀ ds d, R_shift_count C ds d → St K (t_shift_count K (spD K (R_lengths_of C))) (ds.map Slot.val ++ List.replicate (N_shift_count.length - ds.length) .no) (Ret d) := by
  rintro _ _ ⟨g, h, rfl, rfl⟩
  have hb := lens_bd h
  have hl : (lens g).length ≤ 12 := by simpa [lens] using h.le
  show St K _ [.val (g.d C), .no, .no] _
  walk_at "asg"
  refine Dl.q (st_for (vs := List.range 40) (env1 := [.val (g.d C), .val (.int 1), .no]) (ds := (lens g).map .int) (Wp := fun _ => True) ?_ (fun i e => ∃ x, e = [.val (g.d C), .val (.int (prodL ((lens g).take i))), x]) ⟨.no, rfl⟩ (fun _ _ _ _ => trivial) ?_ ?_)
  · walk_at "it"
  · rintro i d _ hd ⟨x, rfl⟩
    rw [List.getElem?_map] at hd
    obtain ⟨n, hn, rfl⟩ := Option.map_eq_some_iff.mp hd
    have hnb := hb n (List.mem_of_getElem? hn)
    have hi : i < (lens g).length := (List.getElem?_eq_some_iff.mp hn).1
    have hp := prodL_bd i hb
    have hp2 := pow6 (n := i) (by omega)
    refine ⟨[.val (g.d C), .val (.int (prodL ((lens g).take i))), .val (.int n)], gd_name (by decide), ?_⟩
    have hm := mul_sm (i := prodL ((lens g).take i)) (j := n) (by unfold Sm; omega) (by unfold Sm; omega)
    refine st_asg (d := .int (prodL ((lens g).take i) * n)) (env1 := [.val (g.d C), .val (.int (prodL ((lens g).take i))), .val (.int n)]) (by walk_at "ev") ⟨.val (.int n), ?_⟩
    rw [take_snoc hn, prodL_snoc]; rfl
  · rintro _ ⟨x, rfl⟩
    rw [List.length_map, List.take_length]
    show St K _ _ _
    walk_at "ret"
    rfl
local macro_rules | `(tactic| walk_at "R") => `(tactic| exact r_shift_count (by walk_at "side"))
def R_check_shifts_few (C : Addr) (ds : List D) (d : D) : Prop := ∃ (g : Gv), GvOk g ∧ prodL (lens g) ≤ 1000 ∧ ds = [g.d C] ∧ d = .non
theorem r_check_shifts_few {C : Addr} {g : Gv} (h : GvOk g) (h2 : prodL (lens g) ≤ 1000) : R_check_shifts_few C [g.d C] .non := ⟨g, h, h2, rfl, rfl⟩
theorem p_check_shifts_few {C : Addr} : ∀ ds d, R_check_shifts_few C ds d → St K (t_check_shifts_few K (spD K (R_check_grove C)) (spD K (R_shift_count C))) (ds.map Slot.val ++ List.replicate (N_check_shifts_few.length - ds.length) .no) (Ret d) := by
  rintro _ _ ⟨g, h, h2, rfl, rfl⟩
  show St K _ [.val (g.d C)] _
  walk_at "drop"
  walk_at "chk"
local macro_rules | `(tactic| walk_at "R") => `(tactic| exact r_check_shifts_few (by walk_at "side") (by walk_at "side"))
/-! all of them -/
def longer (n : Int) (row : List Int) : List (List Int) := (List.range n.toNat).map fun s => row ++ [((s : Nat) : Int)]
def shN (l : List Int) : List (List Int) := l.foldl (fun rows n => rows.flatMap (longer n)) [[]]
theorem shN_snoc {l : List Int} {x : Int} : shN (l ++ [x]) = (shN l).flatMap (longer x) := by simp [shN, List.foldl_append]
theorem flat_len {n : Int} (hn : 0 ≤ n) : ∀ {rows : List (List Int)}, (((rows.flatMap (longer n)).length : Nat) : Int) = (rows.length : Nat) * n
  | [] => by simp
  | r :: rows => by
    rw [List.flatMap_cons, List.length_append, List.length_cons, Int.natCast_add, flat_len hn, Int.natCast_add, Int.add_mul]
    simp [longer]
    omega
theorem shN_len {l : List Int} (h : ∀ x ∈ l, 1 ≤ x ∧ x ≤ 6) : ∀ n, (((shN (l.take n)).length : Nat) : Int) = prodL (l.take n)
  | 0 => rfl
  | n + 1 => by
    rcases Nat.lt_or_ge n l.length with z | z
    · have hx := h _ (List.getElem_mem z)
      rw [take_snoc (List.getElem?_eq_getElem z), prodL_snoc, shN_snoc, flat_len (by omega), shN_len h n]
    · have := shN_len h n
      rw [List.take_of_length_le (by omega)] at this ⊢
      exact this
def rowD (r : List Int) : D := .tup (r.map .int)
def R_all_shifts (C : Addr) (ds : List D) (d : D) : Prop := ∃ (g : Gv), GvOk g ∧ prodL (lens g) ≤ 1000 ∧ ds = [g.d C] ∧ d = .lst ((shN (lens g)).map rowD)
theorem r_all_shifts {C : Addr} {g : Gv} (h : GvOk g) (h2 : prodL (lens g) ≤ 1000) : R_all_shifts C [g.d C] (.lst ((shN (lens g)).map rowD)) := ⟨g, h, h2, rfl, rfl⟩
theorem shN_row {l : List Int} : ∀ (n : Nat) {r : List Int}, r ∈ shN (l.take n) → r.length = (l.take n).length
  | 0, r, h => by simp [shN] at h; rw [h]; rfl
  | n + 1, r, h => by
    rcases Nat.lt_or_ge n l.length with z | z
    · rw [take_snoc (List.getElem?_eq_getElem z), shN_snoc, List.mem_flatMap] at h
      obtain ⟨r0, h0, h1⟩ := h
      obtain ⟨s, _, rfl⟩ := List.mem_map.mp h1
      rw [take_snoc (List.getElem?_eq_getElem z), List.length_append, List.length_append, shN_row n h0]; rfl
    · have := shN_row (r := r) n (by rw [List.take_of_length_le (by omega)] at h ⊢; exact h)
      rw [List.take_of_length_le (by omega)] at this ⊢; exact this
theorem p_all_shifts {C : Addr} : ∀ ds d, R_all_shifts C ds d → St K (t_all_shifts K (spD K (R_lengths_of C))) (ds.map Slot.val ++ List.replicate (N_all_shifts.length - ds.length) .no) (Ret d) := by
  rintro _ _ ⟨g, h, h2, rfl, rfl⟩
  have hb := lens_bd h
  have hl : (lens g).length ≤ 12 := by simpa [lens] using h.le
  show St K _ [.val (g.d C), .no, .no, .no, .no, .no] _
  refine q_asg (d := .lst ((shN []).map rowD)) (env1 := [.val (g.d C), .no, .no, .no, .no, .no]) (ev_lst (ea_cons (ev_tup ea_nil (Nat.le_of_ble_eq_true rfl)) ea_nil) (Nat.le_of_ble_eq_true rfl)) ?_
  refine Dl.q (st_for (vs := List.range 40) (env1 := [.val (g.d C), .val (.lst ((shN []).map rowD)), .no, .no, .no, .no]) (ds := (lens g).map .int) (Wp := fun _ => True) (by walk_at "it") (fun i e => ∃ a b c d, e = [.val (g.d C), .val (.lst ((shN ((lens g).take i)).map rowD)), a, b, c, d]) ⟨.no, .no, .no, .no, rfl⟩ (fun _ _ _ _ => trivial) ?_ ?_)
  · rintro i d _ hd ⟨a, b, c, dd, rfl⟩
    rw [List.getElem?_map] at hd
    obtain ⟨n, hn, rfl⟩ := Option.map_eq_some_iff.mp hd
    have hnb := hb n (List.mem_of_getElem? hn)
    have hi : i < (lens g).length := (List.getElem?_eq_some_iff.mp hn).1
    have htot : (((shN ((lens g).take i)).flatMap (longer n)).length : Int) ≤ 1000 := by
      rw [← shN_snoc, ← take_snoc hn, shN_len hb]
      exact Int.le_trans (prodL_pre hb _) h2
    refine ⟨[.val (g.d C), .val (.lst ((shN ((lens g).take i)).map rowD)), .val (.int n), b, c, dd], gd_name (by decide), ?_⟩
    refine q_asgN (ds := []) (env1 := [.val (g.d C), .val (.lst ((shN ((lens g).take i)).map rowD)), .val (.int n), b, c, dd]) (en_lst ea_nil (Nat.le_of_ble_eq_true rfl)) fun p => ?_
    refine Dl.q (st_for (vs := List.range 40) (env1 := [.val (g.d C), .val (.lst ((shN ((lens g).take i)).map rowD)), .val (.int n), .own p (.lst []), c, dd]) (ds := (shN ((lens g).take i)).map rowD) (Wp := fun _ => True) (by walk_at "it")
      (fun j e => ∃ c d, e = [.val (g.d C), .val (.lst ((shN ((lens g).take i)).map rowD)), .val (.int n), .own p (.lst ((((shN ((lens g).take i)).take j).flatMap (longer n)).map rowD)), c, d]) ⟨c, dd, rfl⟩ (fun _ _ _ _ => trivial) ?_ ?_)
    · rintro j d _ hd ⟨c, dd, rfl⟩
      rw [List.getElem?_map] at hd
      obtain ⟨row, hr, rfl⟩ := Option.map_eq_some_iff.mp hd
      refine ⟨[.val (g.d C), .val (.lst ((shN ((lens g).take i)).map rowD)), .val (.int n), .own p (.lst ((((shN ((lens g).take i)).take j).flatMap (longer n)).map rowD)), .val (rowD row), dd], gd_name (by decide), ?_⟩
      have hrl : row.length ≤ 12 := by
        have := shN_row i (List.mem_of_getElem? hr)
        rw [this, List.length_take]; omega
      have hsz : (((shN ((lens g).take i)).take j).flatMap (longer n)).length + (longer n row).length ≤ 1000 := by
        have e1 : (((shN ((lens g).take i)).take (j + 1)).flatMap (longer n)).length = (((shN ((lens g).take i)).take j).flatMap (longer n)).length + (longer n row).length := by
          rw [take_snoc hr, List.flatMap_append, List.length_append, List.flatMap_cons, List.flatMap_nil, List.append_nil]
        have e2 : ((shN ((lens g).take i)).flatMap (longer n)).length = (((shN ((lens g).take i)).take (j + 1)).flatMap (longer n)).length + (((shN ((lens g).take i)).drop (j + 1)).flatMap (longer n)).length := by
          rw [← List.length_append, ← List.flatMap_append, List.take_append_drop]
        omega
      refine st_ext (es := (longer n row).map rowD) (ds := (((shN ((lens g).take i)).take j).flatMap (longer n)).map rowD) (env1 := [.val (g.d C), .val (.lst ((shN ((lens g).take i)).map rowD)), .val (.int n), .own p (.lst ((((shN ((lens g).take i)).take j).flatMap (longer n)).map rowD)), .val (rowD row), dd]) ?_ rfl rfl (by rw [List.length_map, List.length_map]; omega) ?_
      · apply ev_fz
        unfold longer
        rw [List.map_map]
        apply en_lc1 (List.range n.toNat) (fun s => D.int (s : Nat)) (rowD ∘ fun s => row ++ [((s : Nat) : Int)])
        · walk_at "it"
        · rfl
        · trivial
        · simp; omega
        · intro s hs
          apply ex2
          walk_at "gd"
          refine ev_is (d := .tup (row.map .int ++ [.int (s : Nat)])) (ev_tup (ea_starT (by walk_at "ev") (ea_cons (by walk_at "ev") ea_nil)) (by simp; omega)) (by simp [rowD])
      · refine ⟨.val (rowD row), dd, ?_⟩
        rw [take_snoc hr, List.flatMap_append, List.flatMap_cons, List.flatMap_nil, List.append_nil, List.map_append]
        rfl
    · rintro _ ⟨c, dd, rfl⟩
      rw [List.length_map, List.take_length]
      refine st_asg (ev_give rfl) ⟨.val (.int n), .no, c, dd, ?_⟩
      rw [take_snoc hn, shN_snoc]
      rfl
  · rintro _ ⟨a, b, c, d, rfl⟩
    rw [List.length_map, List.take_length]
    show St K _ _ _
    walk_at "ret"
    rfl
local macro_rules | `(tactic| walk_at "R") => `(tactic| exact r_all_shifts (by walk_at "side") (by walk_at "side"))
end K83

set_option Elab.async false
set_option linter.all false
set_option maxRecDepth 100000
set_option maxHeartbeats 4000000
set_option autoImplicit false
namespace K83
open PySem L2 Dl StX
open Evl (Ex fresh_back ex_rd)
variable {K : PySem.W.Frag}
local macro_rules | `(tactic| walk_at "side") => `(tactic| focus (first | assumption | rfl | exact Nat.le_of_ble_eq_true rfl | omega | decide | (simp; done) | (simp; omega)))
local macro_rules | `(tactic| walk_at "ix") => `(tactic| first | rfl | assumption | exact atI_nat (by focus (first | rfl | assumption | (simp; done))))
local macro_rules | `(tactic| walk_at "log") => `(tactic| first | assumption | exact mul_sm (by unfold Sm; omega) (by unfold Sm; omega) | exact log_sm2 (by unfold Sm; omega) | exact log_sm (by unfold Sm; omega) | decide)
local macro_rules | `(tactic| walk_at "R") => `(tactic| fail "no R")
local macro_rules | `(tactic| walk_at "r2") => `(tactic| first
  | exact d_add | exact d_sub | exact d_lt | exact d_le | exact d_gt | exact d_ge | exact d_eqI | exact d_neI | exact d_eqS | exact d_neS | exact d_eqB | exact d_neB
  | exact d_eqT2 | exact d_neT2 | exact d_eqTI | exact d_neTI | exact d_eqLI | exact d_neLI | (apply d_eqTS; assumption; assumption)
  | exact d_isN | exact d_ntN | exact d_isB | exact d_ntB
  | (apply d_mod; walk_at "side") | (apply d_div; walk_at "side"; walk_at "log") | (apply d_mul; walk_at "log") | (apply d_pow; walk_at "side"; walk_at "log")
  | exact d_inS | exact d_niS | exact d_inST | exact d_niST | exact d_inG | exact d_niG
  | (apply d_ixL; walk_at "ix") | (apply d_ixT; walk_at "ix") | (apply d_ixR; walk_at "ix") | (apply d_ixS; walk_at "side"; walk_at "ix") | (apply d_ixDs; walk_at "ix")
  | (apply d_inD; walk_at "side") | (apply d_niD; walk_at "side")
  | (apply d_addS; walk_at "side") | (apply d_addL; walk_at "side") | (apply d_addT; walk_at "side"))
local macro_rules | `(tactic| walk_at "ra") => `(tactic| first
  | exact d_lenL | exact d_lenT | (apply d_lenS; walk_at "side") | exact d_lenR | exact d_lenD | exact d_sum | exact d_all | exact d_any
  | (apply d_max; walk_at "side") | (apply d_min; walk_at "side") | exact d_max2 | exact d_min2 | exact d_abs | exact d_int | exact d_intB
  | (apply d_intS; walk_at "side"; walk_at "side") | (apply d_str; walk_at "log") | exact d_listL | exact d_listT | exact d_listD | exact d_tupL | exact d_sorted
  | (apply d_isiC; assumption)
  | exact d_isiTy (b := true) rfl (by decide +kernel) | exact d_isiTy (b := false) rfl (by decide +kernel))
local macro_rules | `(tactic| walk_at "gs") => `(tactic| first
  | exact gs_nil | (apply gs_cons; walk_at "gd"; walk_at "gs"))
local macro_rules | `(tactic| walk_at "gd") => `(tactic| first
  | exact gd_name (by decide) | (apply gd_tupU; walk_at "gs"; rfl) | (apply gd_lstU; walk_at "gs"; rfl))
local macro_rules | `(tactic| walk_at "ea") => `(tactic| first
  | exact ea_nil | (apply ea_cons; walk_at "ev"; walk_at "ea") | (apply ea_starT; walk_at "ev"; walk_at "ea") | (apply ea_starL; walk_at "ev"; walk_at "ea"))
local macro_rules | `(tactic| walk_at "eo") => `(tactic| first
  | exact eo_none | (apply eo_some; walk_at "ev"))
local macro_rules | `(tactic| walk_at "it") => `(tactic| first
  | (apply it_r1; walk_at "ea"; walk_at "side"; walk_at "side")
  | (apply it_r2; walk_at "ea"; walk_at "side"; walk_at "side"; walk_at "side"; walk_at "side")
  | (apply it_en; walk_at "ea"; first | exact Or.inl rfl | exact Or.inr rfl)
  | (apply it_zp; walk_at "ea"; (first | exact Or.inl rfl | exact Or.inr rfl); (first | exact Or.inl rfl | exact Or.inr rfl))
  | (apply it_anyL; walk_at "ev") | (apply it_anyT; walk_at "ev") | (apply it_anyS; walk_at "ev"))
local macro_rules | `(tactic| walk_at "hds") => `(tactic| first | rfl | exact (List.map_id _).symm)
local macro_rules | `(tactic| walk_at "turn1") => `(tactic| (intro a ha; apply ex2; walk_at "gd"; walk_at "ev"))
local macro_rules | `(tactic| walk_at "turn2") => `(tactic| (intro a ha; apply ex3; walk_at "gd"; walk_at "et"; (intro hb; walk_at "ev")))
local macro_rules | `(tactic| walk_at "lc") => `(tactic| first
  | (apply en_lc1I; walk_at "it"; walk_at "hds"; exact trivial; walk_at "side"; walk_at "turn1")
  | (apply en_lc1B; walk_at "it"; walk_at "hds"; exact trivial; walk_at "side"; walk_at "turn1")
  | (apply en_lc1S; walk_at "it"; walk_at "hds"; exact trivial; walk_at "side"; walk_at "turn1")
  | (apply en_lc1; walk_at "it"; walk_at "hds"; exact trivial; walk_at "side"; walk_at "turn1")
  | (apply en_lcI; walk_at "it"; walk_at "hds"; exact trivial; walk_at "side"; walk_at "turn2")
  | (apply en_lcS; walk_at "it"; walk_at "hds"; exact trivial; walk_at "side"; walk_at "turn2")
  | (apply en_lc; walk_at "it"; walk_at "hds"; exact trivial; walk_at "side"; walk_at "turn2"))
local macro_rules | `(tactic| walk_at "ev") => `(tactic| first
  | exact ev_int | exact ev_str | exact ev_bl | exact ev_non | exact ev_ty | exact ev_adr | exact ev_var rfl
  | (apply ev_op; walk_at "ev"; walk_at "ev"; walk_at "r2")
  | (apply ev_ixW; rfl; walk_at "ev"; rfl; walk_at "ix")
  | (apply ev_un; walk_at "ev"; exact d_uNeg)
  | (apply ev_cb; walk_at "ea"; walk_at "ra")
  | (apply ev_tup; walk_at "ea"; walk_at "side")
  | (apply ev_call; walk_at "ea"; walk_at "R")
  | (apply ev_meth; walk_at "ev"; decide; walk_at "ea"; walk_at "R")
  | (apply ev_prop; walk_at "ev"; walk_at "R")
  | (apply ev_fldS; walk_at "ev"; rfl; assumption; assumption)
  | (apply ev_eqE; walk_at "ev") | (apply ev_neE; walk_at "ev")
  | (apply ev_fz; walk_at "lc")
  | (apply ev_lst; walk_at "ea"; walk_at "side")
  | (apply ev_andV; walk_at "ev"; (intro h1; walk_at "ev"))
  | (apply ev_orV; walk_at "ev"; (intro h1; walk_at "ev"))
  | (apply ev_notV; walk_at "ev")
  | (apply ev_chain; walk_at "ev"; walk_at "ev"; walk_at "r2"; (intro h1; apply And.intro; walk_at "ev"; walk_at "r2"))
  | (apply ev_slL; walk_at "ev"; walk_at "eo"; walk_at "eo")
  | (apply ev_slT; walk_at "ev"; walk_at "eo"; walk_at "eo")
  | (apply ev_slS; walk_at "ev"; walk_at "eo"; walk_at "eo"; walk_at "side")
  | (apply ev_indexI; walk_at "ev"; walk_at "ev"; walk_at "side"))
local macro_rules | `(tactic| walk_at "et") => `(tactic| first
  | (apply et_test; walk_at "ev") | (apply et_B; walk_at "ev") | (apply et_not; walk_at "et")
  | (apply et_and; walk_at "et"; (intro h1; walk_at "et")) | (apply et_or; walk_at "et"; (intro h1; walk_at "et")) | exact et_yes)
local macro_rules | `(tactic| walk_at "nrm") => `(tactic| (try simp only [List.set_cons_succ, List.set_cons_zero]))
local macro_rules | `(tactic| walk_at "asg") => `(tactic| (apply q_asg; walk_at "ev"; walk_at "nrm"))
local macro_rules | `(tactic| walk_at "drop") => `(tactic| (apply q_drop; walk_at "ev"))
local macro_rules | `(tactic| walk_at "tup") => `(tactic| (apply q_tupU; walk_at "ev"; walk_at "gs"; rfl; walk_at "nrm"))
local macro_rules | `(tactic| walk_at "ret") => `(tactic| (apply st_ret; walk_at "ev"))
local macro_rules | `(tactic| walk_at "bf") => `(tactic| focus (first | rfl | (simp; done) | (simp; omega) | (simp [*]; done) | (simp [*]; omega)))
local macro_rules | `(tactic| walk_at "no") => `(tactic| (apply q_no; walk_at "et"; walk_at "bf"))
local macro_rules | `(tactic| walk_at "chk") => `(tactic| (apply st_chk; walk_at "et"; walk_at "bf"; rfl))
local macro_rules | `(tactic| walk_at "unl") => `(tactic| (apply q_lstU; walk_at "ev"; walk_at "gs"; rfl; walk_at "nrm"))
local macro_rules | `(tactic| walk_at "R") => `(tactic| exact r_is_integer)
local macro_rules | `(tactic| walk_at "R") => `(tactic| exact r_is_between)
local macro_rules | `(tactic| walk_at "R") => `(tactic| exact r_is_day)
local macro_rules | `(tactic| walk_at "R") => `(tactic| exact r_check_year (by walk_at "side"))
local macro_rules | `(tactic| walk_at "R") => `(tactic| exact r_check_number (by walk_at "side"))
local macro_rules | `(tactic| walk_at "R") => `(tactic| exact r_check_life (by walk_at "side"))
local macro_rules | `(tactic| walk_at "R") => `(tactic| exact r_are_plants_of (by walk_at "side") (by walk_at "side"))
local macro_rules | `(tactic| walk_at "R") => `(tactic| exact r_check_plants (by walk_at "side") (by walk_at "side"))
local macro_rules | `(tactic| walk_at "R") => `(tactic| exact r_bearing_by (by walk_at "side") (by walk_at "side"))
local macro_rules | `(tactic| walk_at "R") => `(tactic| exact r_bearing (by walk_at "side") (by walk_at "side") (by walk_at "side"))
local macro_rules | `(tactic| walk_at "R") => `(tactic| exact r_bearings_of (by walk_at "side") (by walk_at "side"))
local macro_rules | `(tactic| walk_at "R") => `(tactic| exact r_least_bearing (by walk_at "side") (by walk_at "side"))
local macro_rules | `(tactic| walk_at "R") => `(tactic| exact r_most_bearing (by walk_at "side") (by walk_at "side"))
local macro_rules | `(tactic| walk_at "R") => `(tactic| exact r_even_plants (by walk_at "side") (by walk_at "side"))
local macro_rules | `(tactic| walk_at "R") => `(tactic| exact r_most_always (by walk_at "side") (by walk_at "side"))
local macro_rules | `(tactic| walk_at "R") => `(tactic| exact r_best_plants (by walk_at "side") (by walk_at "side"))
local macro_rules | `(tactic| walk_at "R") => `(tactic| exact r_common (by walk_at "side") (by walk_at "side"))
local macro_rules | `(tactic| walk_at "R") => `(tactic| exact r_reduced (by walk_at "side") (by walk_at "side"))
local macro_rules | `(tactic| walk_at "R") => `(tactic| exact r_is_name (by walk_at "side"))
local macro_rules | `(tactic| walk_at "R") => `(tactic| exact r_read_integer (by walk_at "side"))
local macro_rules | `(tactic| walk_at "R") => `(tactic| exact r_is_pattern (by walk_at "side"))
local macro_rules | `(tactic| walk_at "R") => `(tactic| exact r_palm_in (by walk_at "side"))
local macro_rules | `(tactic| walk_at "R") => `(tactic| exact r_is_new (by walk_at "side") (by walk_at "side") (by walk_at "side") (by walk_at "side") (by walk_at "side"))
local macro_rules | `(tactic| walk_at "R") => `(tactic| exact r_palm_names)
local macro_rules | `(tactic| walk_at "R") => `(tactic| exact r_years_of (by walk_at "side") (by walk_at "side"))
local macro_rules | `(tactic| walk_at "R") => `(tactic| exact r_dates_of (by walk_at "side") (by walk_at "side"))
local macro_rules | `(tactic| walk_at "R") => `(tactic| exact r_check_grove)
local macro_rules | `(tactic| walk_at "R") => `(tactic| exact r_check_palm (by walk_at "side") (by walk_at "side"))
local macro_rules | `(tactic| walk_at "R") => `(tactic| exact r_bears_in (by walk_at "side") (by walk_at "side"))
local macro_rules | `(tactic| walk_at "R") => `(tactic| exact r_bears (by walk_at "side") (by walk_at "side") (by walk_at "side"))
local macro_rules | `(tactic| walk_at "R") => `(tactic| exact r_baskets_in (by walk_at "side"))
local macro_rules | `(tactic| walk_at "R") => `(tactic| exact r_baskets (by walk_at "side") (by walk_at "side"))
local macro_rules | `(tactic| walk_at "R") => `(tactic| exact r_bits_of (by walk_at "side") (by walk_at "side"))
local macro_rules | `(tactic| walk_at "R") => `(tactic| exact r_years_of_lot (by walk_at "side") (by walk_at "side") (by walk_at "side"))
local macro_rules | `(tactic| walk_at "R") => `(tactic| exact r_is_some_lot (by walk_at "side"))
local macro_rules | `(tactic| walk_at "R") => `(tactic| exact r_years_all (by walk_at "side"))
local macro_rules | `(tactic| walk_at "R") => `(tactic| exact r_sums_of (by walk_at "side"))
local macro_rules | `(tactic| walk_at "R") => `(tactic| exact r_most_baskets (by walk_at "side"))
local macro_rules | `(tactic| walk_at "R") => `(tactic| exact r_least_baskets (by walk_at "side"))
local macro_rules | `(tactic| walk_at "R") => `(tactic| exact r_mean_baskets (by walk_at "side"))
local macro_rules | `(tactic| walk_at "R") => `(tactic| exact r_lengths_of (by walk_at "side"))
local macro_rules | `(tactic| walk_at "R") => `(tactic| exact r_shift_count (by walk_at "side"))
local macro_rules | `(tactic| walk_at "R") => `(tactic| exact r_check_shifts_few (by walk_at "side") (by walk_at "side"))
local macro_rules | `(tactic| walk_at "R") => `(tactic| exact r_all_shifts (by walk_at "side") (by walk_at "side"))
/-! rows, shifted -/
def b2i (b : Bool) : Int := if b then 1 else 0
theorem b2i_bd (b : Bool) : 0 ≤ b2i b ∧ b2i b ≤ 1 := by cases b <;> decide
/-- the palm's baskets over the years, s later -/
def shRow (q : Pm) (s : Nat) : List Int := (List.range 60).map fun y => q.n * b2i (bit q.p ((y : Nat) + (s : Nat)))
def shRows (q : Pm) : D := .lst ((List.range q.p.length).map fun s => .lst ((shRow q s).map .int))
def R_rows_shifted (C : Addr) (ds : List D) (d : D) : Prop := ∃ (g : Gv), GvOk g ∧ ds = [g.d C] ∧ d = .lst (g.ps.map shRows)
theorem r_rows_shifted {C : Addr} {g : Gv} (h : GvOk g) : R_rows_shifted C [g.d C] (.lst (g.ps.map shRows)) := ⟨g, h, rfl, rfl⟩
theorem p_rows_shifted {C : Addr} : ∀ ds d, R_rows_shifted C ds d → St K (t_rows_shifted K C (spD K (R_lengths_of C)) (spD K (R_palm_names C)) (spD K (R_dates_of C)) (spD K (R_years_of C))) (ds.map Slot.val ++ List.replicate (N_rows_shifted.length - ds.length) .no) (Ret d) := by
  rintro _ _ ⟨g, h, rfl, rfl⟩
  have hle := h.le
  show St K _ [.val (g.d C), .no, .no, .no, .no, .no, .no, .no, .no] _
  unfold t_rows_shifted
  rw [one_eq]
  refine q_asgN (ds := []) (env1 := [.val (g.d C), .no, .no, .no, .no, .no, .no, .no, .no]) (en_lst ea_nil (Nat.le_of_ble_eq_true rfl)) fun p => ?_
  refine Dl.q (st_for (vs := List.range 40) (env1 := [.val (g.d C), .own p (.lst []), .no, .no, .no, .no, .no, .no, .no]) (ds := g.ps.map fun q => .tup [.str q.nm, .int (q.p.length : Nat)]) (Wp := fun _ => True) ?_ (fun i e => ∃ a b c d f x y, e = [.val (g.d C), .own p (.lst ((g.ps.take i).map shRows)), a, b, c, d, f, x, y]) ⟨.no, .no, .no, .no, .no, .no, .no, rfl⟩ (fun _ _ _ _ => trivial) ?_ ?_)
  · have e : (g.ps.map fun q => D.tup [.str q.nm, .int (q.p.length : Nat)]) = (((names g).map D.str).zip ((lens g).map D.int)).map fun p => D.tup [p.1, p.2] := by
      simp [names, lens, List.zip_map, Function.comp_def, List.map_map]
      induction g.ps with
      | nil => rfl
      | cons q qs ih => simpa using ih
    rw [e]
    exact it_zp (by walk_at "ea") (Or.inl rfl) (Or.inl rfl)
  · rintro i d _ hd ⟨a, b, c, d, f, x, y, rfl⟩
    rw [List.getElem?_map] at hd
    obtain ⟨q, hq, rfl⟩ := Option.map_eq_some_iff.mp hd
    have hm := List.mem_of_getElem? hq
    have hi : i < g.ps.length := (List.getElem?_eq_some_iff.mp hq).1
    obtain ⟨⟨h1, h2, h3, h4⟩, h5⟩ := h.ok q hm
    refine ⟨[.val (g.d C), .own p (.lst ((g.ps.take i).map shRows)), .val (.str q.nm), .val (.int (q.p.length : Nat)), c, d, f, x, y], by walk_at "gd", ?_⟩
    refine q_tupU (ds := [.str q.p, .int q.n]) (env1 := [.val (g.d C), .own p (.lst ((g.ps.take i).map shRows)), .val (.str q.nm), .val (.int (q.p.length : Nat)), c, d, f, x, y])
      (env2 := [.val (g.d C), .own p (.lst ((g.ps.take i).map shRows)), .val (.str q.nm), .val (.int (q.p.length : Nat)), .val (.str q.p), .val (.int q.n), f, x, y]) (by walk_at "ev") (by walk_at "gs") rfl ?_
    refine q_asgN (ds := []) (env1 := [.val (g.d C), .own p (.lst ((g.ps.take i).map shRows)), .val (.str q.nm), .val (.int (q.p.length : Nat)), .val (.str q.p), .val (.int q.n), f, x, y]) (en_lst ea_nil (Nat.le_of_ble_eq_true rfl)) fun p2 => ?_
    refine Dl.q (st_for (vs := List.range 40) (env1 := [.val (g.d C), .own p (.lst ((g.ps.take i).map shRows)), .val (.str q.nm), .val (.int (q.p.length : Nat)), .val (.str q.p), .val (.int q.n), .own p2 (.lst []), x, y]) (ds := (List.range ((q.p.length : Nat) : Int).toNat).map fun s => D.int (s : Nat)) (Wp := fun _ => True) (by walk_at "it")
      (fun j e => ∃ x y, e = [.val (g.d C), .own p (.lst ((g.ps.take i).map shRows)), .val (.str q.nm), .val (.int (q.p.length : Nat)), .val (.str q.p), .val (.int q.n), .own p2 (.lst ((List.range j).map fun s => .lst ((shRow q s).map .int))), x, y]) ⟨x, y, rfl⟩ (fun _ _ _ _ => trivial) ?_ ?_)
    · rintro j d _ hd ⟨x, y, rfl⟩
      have hj : j < q.p.length := by
        have := (List.getElem?_eq_some_iff.mp hd).1
        simpa using this
      rw [List.getElem?_map, List.getElem?_range (by simpa using hj)] at hd
      cases hd
      refine ⟨[.val (g.d C), .own p (.lst ((g.ps.take i).map shRows)), .val (.str q.nm), .val (.int (q.p.length : Nat)), .val (.str q.p), .val (.int q.n), .own p2 (.lst ((List.range j).map fun s => .lst ((shRow q s).map .int))), .val (.int (j : Nat)), y], gd_name (by decide), ?_⟩
      refine st_app (d := .lst ((shRow q j).map .int)) (env1 := [.val (g.d C), .own p (.lst ((g.ps.take i).map shRows)), .val (.str q.nm), .val (.int (q.p.length : Nat)), .val (.str q.p), .val (.int q.n), .own p2 (.lst ((List.range j).map fun s => .lst ((shRow q s).map .int))), .val (.int (j : Nat)), y]) ?_ rfl rfl (by rw [List.length_map, List.length_range]; omega) ⟨.val (.int (j : Nat)), y, ?_⟩
      · apply ev_fz
        apply en_lc1I (List.range 60) (fun y => D.int (y : Nat)) (fun y => q.n * b2i (bit q.p ((y : Nat) + (j : Nat))))
        · walk_at "it"
        · rfl
        · trivial
        · decide
        · intro yy hy
          have hx := atI_mod (p := q.p) (y := ((yy : Nat) : Int) + (j : Nat)) h1
          have hz : q.p.length ≤ 100000 := by omega
          have hb := b2i_bd (bit q.p ((yy : Nat) + (j : Nat)))
          have hlog := mul_sm (i := q.n) (j := b2i (bit q.p ((yy : Nat) + (j : Nat)))) (by unfold Sm; omega) (by unfold Sm; omega)
          have hbb : (if decide ((⟨#[q.p.cps.toList.getD ((((yy : Nat) : Int) + (j : Nat)) % (q.p.length : Nat)).toNat 0]⟩ : Str) = ⟨#[49]⟩) = true then (1 : Int) else 0) = b2i (bit q.p ((yy : Nat) + (j : Nat))) := by
            unfold b2i bit
            simp
          apply ex2
          walk_at "gd"
          refine ev_op (b := .int (b2i (bit q.p ((yy : Nat) + (j : Nat))))) (by walk_at "ev") (ev_is (by walk_at "ev") (by rw [← hbb])) (d_mul hlog)
      · show _ = _
        rw [List.range_succ, List.map_append]
        rfl
    · rintro _ ⟨x, y, rfl⟩
      have hlen : ((List.range ((q.p.length : Nat) : Int).toNat).map fun s => D.int (s : Nat)).length = q.p.length := by simp
      rw [hlen]
      refine st_app (d := shRows q) (env1 := [.val (g.d C), .own p (.lst ((g.ps.take i).map shRows)), .val (.str q.nm), .val (.int (q.p.length : Nat)), .val (.str q.p), .val (.int q.n), .no, x, y]) (ev_give rfl) rfl rfl (by rw [List.length_map, List.length_take]; omega) ⟨.val (.str q.nm), .val (.int (q.p.length : Nat)), .val (.str q.p), .val (.int q.n), .no, x, y, ?_⟩
      rw [take_snoc hq, List.map_append]
      rfl
  · rintro _ ⟨a, b, c, d, f, x, y, rfl⟩
    rw [List.length_map, List.take_length]
    show St K _ _ _
    refine st_ret (ev_give rfl) rfl
local macro_rules | `(tactic| walk_at "R") => `(tactic| exact r_rows_shifted (by walk_at "side"))
/-! the sums by shifts -/
def ShOk (g : Gv) (sh : List Int) : Prop := sh.length = g.ps.length ∧ ∀ (i : Nat) (q : Pm) (s : Int), g.ps[i]? = some q → sh[i]? = some s → 0 ≤ s ∧ s < (q.p.length : Nat)
def sumsBy (g : Gv) (sh : List Int) : List Int := (List.range 60).map fun y => ((g.ps.zip sh).map fun a => a.1.n * b2i (bit a.1.p ((y : Nat) + a.2))).sum
def R_sums_by (C : Addr) (ds : List D) (d : D) : Prop := ∃ (g : Gv) (sh : List Int), GvOk g ∧ ShOk g sh ∧ ds = [.lst (g.ps.map shRows), rowD sh] ∧ d = .lst ((sumsBy g sh).map .int)
theorem r_sums_by {C : Addr} {g : Gv} {sh : List Int} (h : GvOk g) (h2 : ShOk g sh) : R_sums_by C [.lst (g.ps.map shRows), rowD sh] (.lst ((sumsBy g sh).map .int)) := ⟨g, sh, h, h2, rfl, rfl⟩
theorem p_sums_by {C : Addr} : ∀ ds d, R_sums_by C ds d → St K (t_sums_by K) (ds.map Slot.val ++ List.replicate (N_sums_by.length - ds.length) .no) (Ret d) := by
  rintro _ _ ⟨g, sh, h, h2, rfl, rfl⟩
  have hle := h.le
  have hzl : (g.ps.zip sh).length ≤ 12 := by rw [List.length_zip]; omega
  show St K _ [.val (.lst (g.ps.map shRows)), .val (rowD sh), .no, .no, .no, .no] _
  refine q_asg (d := .lst ((g.ps.zip sh).map fun a => .lst ((shRow a.1 a.2.toNat).map .int))) (env1 := [.val (.lst (g.ps.map shRows)), .val (rowD sh), .no, .no, .no, .no]) (ev_fz ?_) ?_
  · apply en_lc1 (g.ps.zip sh) (fun a => D.tup [shRows a.1, .int a.2]) (fun a => .lst ((shRow a.1 a.2.toNat).map .int))
    · exact it_zp (by walk_at "ea") (Or.inl rfl) (Or.inr rfl)
    · rw [List.zip_map, List.map_map]; rfl
    · trivial
    · omega
    · rintro ⟨q, s⟩ ha
      obtain ⟨i, hi, hie⟩ := List.getElem_of_mem ha
      have hi1 : g.ps[i]? = some q := by
        rw [List.getElem_zip] at hie
        have : i < g.ps.length := by rw [List.length_zip] at hi; omega
        rw [List.getElem?_eq_getElem this]
        injection hie with e1 e2
        rw [e1]
      have hi2 : sh[i]? = some s := by
        rw [List.getElem_zip] at hie
        have : i < sh.length := by rw [List.length_zip] at hi; omega
        rw [List.getElem?_eq_getElem this]
        injection hie with e1 e2
        rw [e2]
      have hs := h2.2 i q s hi1 hi2
      obtain ⟨n, rfl⟩ := Int.eq_ofNat_of_zero_le hs.1
      have hx : ((List.range q.p.length).map fun s => D.lst ((shRow q s).map .int))[n]? = some (.lst ((shRow q n).map .int)) := by
        rw [List.getElem?_map, List.getElem?_range (by omega)]; rfl
      have hx2 := atI_nat hx
      apply ex2
      · walk_at "gd"
      · show Ev K _ _ (.lst ((shRow q n).map .int)) _
        unfold shRows
        walk_at "ev"
  · walk_at "nrm"
    refine st_ret (d := .lst ((sumsBy g sh).map .int)) (env1 := [.val (.lst (g.ps.map shRows)), .val (rowD sh), .val (.lst ((g.ps.zip sh).map fun a => .lst ((shRow a.1 a.2.toNat).map .int))), .no, .no, .no]) (ev_fz ?_) rfl
    apply en_lc1I (List.range 60) (fun y => D.int (y : Nat)) (fun y => ((g.ps.zip sh).map fun a => a.1.n * b2i (bit a.1.p ((y : Nat) + a.2))).sum)
    · walk_at "it"
    · rfl
    · trivial
    · decide
    · intro y hy
      have hy : y < 60 := by simpa using hy
      apply ex2
      · walk_at "gd"
      · refine ev_cb (ea_cons (ev_fz ?_) ea_nil) d_sum
        apply en_lc1I (g.ps.zip sh) (fun a => D.lst ((shRow a.1 a.2.toNat).map .int)) (fun a => a.1.n * b2i (bit a.1.p ((y : Nat) + a.2)))
        · walk_at "it"
        · rfl
        · trivial
        · omega
        · rintro ⟨q, s⟩ ha
          have hs : 0 ≤ s := by
            obtain ⟨i, hi, hie⟩ := List.getElem_of_mem ha
            rw [List.getElem_zip] at hie
            have l1 : i < g.ps.length := by rw [List.length_zip] at hi; omega
            have l2 : i < sh.length := by rw [List.length_zip] at hi; omega
            injection hie with e1 e2
            exact (h2.2 i q s (by rw [List.getElem?_eq_getElem l1, e1]) (by rw [List.getElem?_eq_getElem l2, e2])).1
          obtain ⟨n, rfl⟩ := Int.eq_ofNat_of_zero_le hs
          have hx : ((shRow q n).map D.int)[y]? = some (.int (q.n * b2i (bit q.p ((y : Nat) + (n : Nat))))) := by
            rw [List.getElem?_map, shRow, List.getElem?_map, List.getElem?_range hy]; rfl
          have hx2 := atI_nat hx
          apply ex2
          · walk_at "gd"
          · show Ev K _ _ (.int (q.n * b2i (bit q.p ((y : Nat) + (n : Nat))))) _
            walk_at "ev"
local macro_rules | `(tactic| walk_at "R") => `(tactic| exact r_sums_by (by walk_at "side") (by walk_at "side"))
/-! the evenest -/
def better (g : Gv) (best : Option (Int × List Int)) (sh : List Int) : Option (Int × List Int) :=
  match best with
  | none => some (mnL (sumsBy g sh), sh)
  | some b => if b.1 < mnL (sumsBy g sh) then some (mnL (sumsBy g sh), sh) else some b
def bestOf (g : Gv) (rows : List (List Int)) : Option (Int × List Int) := rows.foldl (better g) none
def bestD : Option (Int × List Int) → D
  | none => .non
  | some b => .tup [.int b.1, rowD b.2]
theorem bestOf_snoc {g : Gv} {rows : List (List Int)} {sh : List Int} : bestOf g (rows ++ [sh]) = better g (bestOf g rows) sh := by simp [bestOf, List.foldl_append]
theorem sumsBy_ne (g : Gv) (sh : List Int) : sumsBy g sh ≠ [] := by
  intro e
  have : (sumsBy g sh).length = 0 := by rw [e]; rfl
  simp [sumsBy] at this
theorem shN_ok {l : List Int} (h : ∀ x ∈ l, 1 ≤ x) : ∀ (n : Nat) {r : List Int}, r ∈ shN (l.take n) → ∀ (i : Nat) (x s : Int), (l.take n)[i]? = some x → r[i]? = some s → 0 ≤ s ∧ s < x
  | 0, r, hr, i, x, s, h1, h2 => by simp at h1
  | n + 1, r, hr, i, x, s, h1, h2 => by
    rcases Nat.lt_or_ge n l.length with z | z
    · have hl := shN_row (n + 1) hr
      rw [take_snoc (List.getElem?_eq_getElem z)] at hr h1 hl
      rw [shN_snoc, List.mem_flatMap] at hr
      obtain ⟨r0, h0, h3⟩ := hr
      obtain ⟨t, ht, rfl⟩ := List.mem_map.mp h3
      have hl0 := shN_row n h0
      rcases Nat.lt_trichotomy i (l.take n).length with k | k | k
      · rw [List.getElem?_append_left k] at h1
        rw [List.getElem?_append_left (by omega)] at h2
        exact shN_ok h n h0 i x s h1 h2
      · rw [List.getElem?_append_right (by omega), k, Nat.sub_self] at h1
        rw [List.getElem?_append_right (by omega), k, hl0, Nat.sub_self] at h2
        simp at h1 h2
        subst h1 h2
        have ht : t < l[n].toNat := by simpa using ht
        omega
      · rw [List.getElem?_append_right (by omega)] at h1
        rw [List.getElem?_eq_none (by rw [List.length_singleton]; omega)] at h1
        cases h1
    · rw [List.take_of_length_le (by omega)] at hr h1
      have := shN_ok (r := r) h n (by rw [List.take_of_length_le (by omega)]; exact hr) i x s (by rw [List.take_of_length_le (by omega)]; exact h1) h2
      exact this
theorem shN_sh {g : Gv} (h : GvOk g) {r : List Int} (hr : r ∈ shN (lens g)) : ShOk g r := by
  have hb := lens_bd h
  have e : (lens g).take (lens g).length = lens g := List.take_length
  refine ⟨?_, fun i q s h1 h2 => ?_⟩
  · have := shN_row (l := lens g) (lens g).length (r := r) (by rw [e]; exact hr)
    rw [e] at this
    rw [this]; simp [lens]
  · refine shN_ok (fun x hx => (hb x hx).1) (lens g).length (r := r) (by rw [e]; exact hr) i (q.p.length : Nat) s ?_ h2
    rw [e, lens, List.getElem?_map, h1]; rfl
def R_told_evenest (C : Addr) (ds : List D) (d : D) : Prop := ∃ (g : Gv), GvOk g ∧ prodL (lens g) ≤ 1000 ∧ ds = [g.d C] ∧ d = bestD (bestOf g (shN (lens g)))
theorem r_told_evenest {C : Addr} {g : Gv} (h : GvOk g) (h2 : prodL (lens g) ≤ 1000) : R_told_evenest C [g.d C] (bestD (bestOf g (shN (lens g)))) := ⟨g, h, h2, rfl, rfl⟩
theorem p_told_evenest {C : Addr} : ∀ ds d, R_told_evenest C ds d → St K (t_told_evenest K (spD K (R_rows_shifted C)) (spD K (R_all_shifts C)) (spD K (R_sums_by C))) (ds.map Slot.val ++ List.replicate (N_told_evenest.length - ds.length) .no) (Ret d) := by
  rintro _ _ ⟨g, h, h2, rfl, rfl⟩
  show St K _ [.val (g.d C), .no, .no, .no, .no] _
  refine Dl.q (st_par (a := .lst (g.ps.map shRows)) (b := .non) (env1 := [.val (g.d C), .no, .no, .no, .no]) (by walk_at "ea") ?_)
  show St K _ [.val (g.d C), .val (.lst (g.ps.map shRows)), .val .non, .no, .no] _
  refine Dl.q (st_for (vs := List.range 40) (env1 := [.val (g.d C), .val (.lst (g.ps.map shRows)), .val .non, .no, .no]) (ds := (shN (lens g)).map rowD) (Wp := fun _ => True) (by walk_at "it")
    (fun i e => ∃ a b, e = [.val (g.d C), .val (.lst (g.ps.map shRows)), .val (bestD (bestOf g ((shN (lens g)).take i))), a, b]) ⟨.no, .no, rfl⟩ (fun _ _ _ _ => trivial) ?_ ?_)
  · rintro i d _ hd ⟨a, b, rfl⟩
    rw [List.getElem?_map] at hd
    obtain ⟨sh, hs, rfl⟩ := Option.map_eq_some_iff.mp hd
    have hok := shN_sh h (List.mem_of_getElem? hs)
    have hne := sumsBy_ne g sh
    refine ⟨[.val (g.d C), .val (.lst (g.ps.map shRows)), .val (bestD (bestOf g ((shN (lens g)).take i))), .val (rowD sh), b], gd_name (by decide), ?_⟩
    refine q_asg (d := .int (mnL (sumsBy g sh))) (env1 := [.val (g.d C), .val (.lst (g.ps.map shRows)), .val (bestD (bestOf g ((shN (lens g)).take i))), .val (rowD sh), b]) (ev_cb (ea_cons (ev_call (ea_cons (by walk_at "ev") (ea_cons (by walk_at "ev") ea_nil)) (r_sums_by (C := C) h hok)) ea_nil) (d_min hne)) ?_
    refine st_asg (d := bestD (bestOf g ((shN (lens g)).take (i + 1)))) (env1 := [.val (g.d C), .val (.lst (g.ps.map shRows)), .val (bestD (bestOf g ((shN (lens g)).take i))), .val (rowD sh), .val (.int (mnL (sumsBy g sh)))]) ?_ ⟨.val (rowD sh), .val (.int (mnL (sumsBy g sh))), rfl⟩
    rw [take_snoc hs, bestOf_snoc]
    cases bestOf g ((shN (lens g)).take i) with
    | none =>
      refine ev_if (x := true || false) (et_or (x := true) (y := false) (et_test (ev_op (by walk_at "ev") (by walk_at "ev") d_isN)) (fun h => nomatch h)) (fun _ => ev_tup (ea_cons (by walk_at "ev") (ea_cons (by walk_at "ev") ea_nil)) (Nat.le_of_ble_eq_true rfl)) (fun h => nomatch h)
    | some bb =>
      refine ev_if (x := decide (bb.1 < mnL (sumsBy g sh))) (et_is (x := false || decide (bb.1 < mnL (sumsBy g sh))) (et_or (et_test (ev_op (by walk_at "ev") (by walk_at "ev") d_isN)) (fun _ => et_test (ev_op (b := .int bb.1) (by walk_at "ev") (by
        show Ev K _ [.val (g.d C), .val (.lst (g.ps.map shRows)), .val (.tup [.int bb.1, rowD bb.2]), .val (rowD sh), .val (.int (mnL (sumsBy g sh)))] _ _
        walk_at "ev") d_gt))) (by simp)) (fun hb => ?_) (fun hb => ?_)
      · have hb : bb.1 < mnL (sumsBy g sh) := of_decide_eq_true hb
        show Ev K _ _ (bestD (if bb.1 < mnL (sumsBy g sh) then some (mnL (sumsBy g sh), sh) else some bb)) _
        rw [if_pos hb]
        exact ev_tup (ea_cons (by walk_at "ev") (ea_cons (by walk_at "ev") ea_nil)) (Nat.le_of_ble_eq_true rfl)
      · have hb : ¬ bb.1 < mnL (sumsBy g sh) := of_decide_eq_false hb
        show Ev K _ _ (bestD (if bb.1 < mnL (sumsBy g sh) then some (mnL (sumsBy g sh), sh) else some bb)) _
        rw [if_neg hb]
        walk_at "ev"
  · rintro _ ⟨a, b, rfl⟩
    rw [List.length_map, List.take_length]
    show St K _ _ _
    walk_at "ret"
    rfl
local macro_rules | `(tactic| walk_at "R") => `(tactic| exact r_told_evenest (by walk_at "side") (by walk_at "side"))
def R_evenest (C : Addr) (ds : List D) (d : D) : Prop := ∃ (g : Gv), GvOk g ∧ prodL (lens g) ≤ 1000 ∧ ds = [g.d C] ∧ d = bestD (bestOf g (shN (lens g)))
theorem r_evenest {C : Addr} {g : Gv} (h : GvOk g) (h2 : prodL (lens g) ≤ 1000) : R_evenest C [g.d C] (bestD (bestOf g (shN (lens g)))) := ⟨g, h, h2, rfl, rfl⟩
theorem p_evenest {C : Addr} : ∀ ds d, R_evenest C ds d → St K (t_evenest K (spD K (R_check_shifts_few C)) (spD K (R_told_evenest C))) (ds.map Slot.val ++ List.replicate (N_evenest.length - ds.length) .no) (Ret d) := by
  rintro _ _ ⟨g, h, h2, rfl, rfl⟩
  show St K _ [.val (g.d C)] _
  walk_at "drop"
  walk_at "ret"
  rfl
local macro_rules | `(tactic| walk_at "R") => `(tactic| exact r_evenest (by walk_at "side") (by walk_at "side"))
end K83

set_option Elab.async false
set_option linter.all false
set_option maxRecDepth 100000
set_option maxHeartbeats 4000000
set_option autoImplicit false
namespace K83
open PySem L2 Dl StX
open Evl (Ex fresh_back ex_rd)
variable {K : PySem.W.Frag}
local macro_rules | `(tactic| walk_at "side") => `(tactic| focus (first | assumption | rfl | exact Nat.le_of_ble_eq_true rfl | omega | decide | (simp; done) | (simp; omega)))
local macro_rules | `(tactic| walk_at "ix") => `(tactic| first | rfl | assumption | exact atI_nat (by focus (first | rfl | assumption | (simp; done))))
local macro_rules | `(tactic| walk_at "log") => `(tactic| first | assumption | exact mul_sm (by unfold Sm; omega) (by unfold Sm; omega) | exact log_sm2 (by unfold Sm; omega) | exact log_sm (by unfold Sm; omega) | decide)
local macro_rules | `(tactic| walk_at "R") => `(tactic| fail "no R")
local macro_rules | `(tactic| walk_at "r2") => `(tactic| first
  | exact d_add | exact d_sub | exact d_lt | exact d_le | exact d_gt | exact d_ge | exact d_eqI | exact d_neI | exact d_eqS | exact d_neS | exact d_eqB | exact d_neB
  | exact d_eqT2 | exact d_neT2 | exact d_eqTI | exact d_neTI | exact d_eqLI | exact d_neLI | (apply d_eqTS; assumption; assumption)
  | exact d_isN | exact d_ntN | exact d_isB | exact d_ntB
  | (apply d_mod; walk_at "side") | (apply d_div; walk_at "side"; walk_at "log") | (apply d_mul; walk_at "log") | (apply d_pow; walk_at "side"; walk_at "log")
  | exact d_inS | exact d_niS | exact d_inST | exact d_niST | exact d_inG | exact d_niG
  | (apply d_ixL; walk_at "ix") | (apply d_ixT; walk_at "ix") | (apply d_ixR; walk_at "ix") | (apply d_ixS; walk_at "side"; walk_at "ix") | (apply d_ixDs; walk_at "ix")
  | (apply d_inD; walk_at "side") | (apply d_niD; walk_at "side")
  | (apply d_addS; walk_at "side") | (apply d_addL; walk_at "side") | (apply d_addT; walk_at "side"))
local macro_rules | `(tactic| walk_at "ra") => `(tactic| first
  | exact d_lenL | exact d_lenT | (apply d_lenS; walk_at "side") | exact d_lenR | exact d_lenD | exact d_sum | exact d_all | exact d_any
  | (apply d_max; walk_at "side") | (apply d_min; walk_at "side") | exact d_max2 | exact d_min2 | exact d_abs | exact d_int | exact d_intB
  | (apply d_intS; walk_at "side"; walk_at "side") | (apply d_str; walk_at "log") | exact d_listL | exact d_listT | exact d_listD | exact d_tupL | exact d_sorted
  | (apply d_isiC; assumption)
  | exact d_isiTy (b := true) rfl (by decide +kernel) | exact d_isiTy (b := false) rfl (by decide +kernel))
local macro_rules | `(tactic| walk_at "gs") => `(tactic| first
  | exact gs_nil | (apply gs_cons; walk_at "gd"; walk_at "gs"))
local macro_rules | `(tactic| walk_at "gd") => `(tactic| first
  | exact gd_name (by decide) | (apply gd_tupU; walk_at "gs"; rfl) | (apply gd_lstU; walk_at "gs"; rfl))
local macro_rules | `(tactic| walk_at "ea") => `(tactic| first
  | exact ea_nil | (apply ea_cons; walk_at "ev"; walk_at "ea") | (apply ea_starT; walk_at "ev"; walk_at "ea") | (apply ea_starL; walk_at "ev"; walk_at "ea"))
local macro_rules | `(tactic| walk_at "eo") => `(tactic| first
  | exact eo_none | (apply eo_some; walk_at "ev"))
local macro_rules | `(tactic| walk_at "it") => `(tactic| first
  | (apply it_r1; walk_at "ea"; walk_at "side"; walk_at "side")
  | (apply it_r2; walk_at "ea"; walk_at "side"; walk_at "side"; walk_at "side"; walk_at "side")
  | (apply it_en; walk_at "ea"; first | exact Or.inl rfl | exact Or.inr rfl)
  | (apply it_zp; walk_at "ea"; (first | exact Or.inl rfl | exact Or.inr rfl); (first | exact Or.inl rfl | exact Or.inr rfl))
  | (apply it_anyL; walk_at "ev") | (apply it_anyT; walk_at "ev") | (apply it_anyS; walk_at "ev"))
local macro_rules | `(tactic| walk_at "hds") => `(tactic| first | rfl | exact (List.map_id _).symm)
local macro_rules | `(tactic| walk_at "turn1") => `(tactic| (intro a ha; apply ex2; walk_at "gd"; walk_at "ev"))
local macro_rules | `(tactic| walk_at "turn2") => `(tactic| (intro a ha; apply ex3; walk_at "gd"; walk_at "et"; (intro hb; walk_at "ev")))
local macro_rules | `(tactic| walk_at "lc") => `(tactic| first
  | (apply en_lc1I; walk_at "it"; walk_at "hds"; exact trivial; walk_at "side"; walk_at "turn1")
  | (apply en_lc1B; walk_at "it"; walk_at "hds"; exact trivial; walk_at "side"; walk_at "turn1")
  | (apply en_lc1S; walk_at "it"; walk_at "hds"; exact trivial; walk_at "side"; walk_at "turn1")
  | (apply en_lc1; walk_at "it"; walk_at "hds"; exact trivial; walk_at "side"; walk_at "turn1")
  | (apply en_lcI; walk_at "it"; walk_at "hds"; exact trivial; walk_at "side"; walk_at "turn2")
  | (apply en_lcS; walk_at "it"; walk_at "hds"; exact trivial; walk_at "side"; walk_at "turn2")
  | (apply en_lc; walk_at "it"; walk_at "hds"; exact trivial; walk_at "side"; walk_at "turn2"))
local macro_rules | `(tactic| walk_at "ev") => `(tactic| first
  | exact ev_int | exact ev_str | exact ev_bl | exact ev_non | exact ev_ty | exact ev_adr | exact ev_var rfl
  | (apply ev_op; walk_at "ev"; walk_at "ev"; walk_at "r2")
  | (apply ev_ixW; rfl; walk_at "ev"; rfl; walk_at "ix")
  | (apply ev_un; walk_at "ev"; exact d_uNeg)
  | (apply ev_cb; walk_at "ea"; walk_at "ra")
  | (apply ev_tup; walk_at "ea"; walk_at "side")
  | (apply ev_call; walk_at "ea"; walk_at "R")
  | (apply ev_meth; walk_at "ev"; decide; walk_at "ea"; walk_at "R")
  | (apply ev_prop; walk_at "ev"; walk_at "R")
  | (apply ev_fldS; walk_at "ev"; rfl; assumption; assumption)
  | (apply ev_eqE; walk_at "ev") | (apply ev_neE; walk_at "ev")
  | (apply ev_fz; walk_at "lc")
  | (apply ev_lst; walk_at "ea"; walk_at "side")
  | (apply ev_andV; walk_at "ev"; (intro h1; walk_at "ev"))
  | (apply ev_orV; walk_at "ev"; (intro h1; walk_at "ev"))
  | (apply ev_notV; walk_at "ev")
  | (apply ev_chain; walk_at "ev"; walk_at "ev"; walk_at "r2"; (intro h1; apply And.intro; walk_at "ev"; walk_at "r2"))
  | (apply ev_slL; walk_at "ev"; walk_at "eo"; walk_at "eo")
  | (apply ev_slT; walk_at "ev"; walk_at "eo"; walk_at "eo")
  | (apply ev_slS; walk_at "ev"; walk_at "eo"; walk_at "eo"; walk_at "side")
  | (apply ev_indexI; walk_at "ev"; walk_at "ev"; walk_at "side"))
local macro_rules | `(tactic| walk_at "et") => `(tactic| first
  | (apply et_test; walk_at "ev") | (apply et_B; walk_at "ev") | (apply et_not; walk_at "et")
  | (apply et_and; walk_at "et"; (intro h1; walk_at "et")) | (apply et_or; walk_at "et"; (intro h1; walk_at "et")) | exact et_yes)
local macro_rules | `(tactic| walk_at "nrm") => `(tactic| (try simp only [List.set_cons_succ, List.set_cons_zero]))
local macro_rules | `(tactic| walk_at "asg") => `(tactic| (apply q_asg; walk_at "ev"; walk_at "nrm"))
local macro_rules | `(tactic| walk_at "drop") => `(tactic| (apply q_drop; walk_at "ev"))
local macro_rules | `(tactic| walk_at "tup") => `(tactic| (apply q_tupU; walk_at "ev"; walk_at "gs"; rfl; walk_at "nrm"))
local macro_rules | `(tactic| walk_at "ret") => `(tactic| (apply st_ret; walk_at "ev"))
local macro_rules | `(tactic| walk_at "bf") => `(tactic| focus (first | rfl | (simp; done) | (simp; omega) | (simp [*]; done) | (simp [*]; omega)))
local macro_rules | `(tactic| walk_at "no") => `(tactic| (apply q_no; walk_at "et"; walk_at "bf"))
local macro_rules | `(tactic| walk_at "chk") => `(tactic| (apply st_chk; walk_at "et"; walk_at "bf"; rfl))
local macro_rules | `(tactic| walk_at "unl") => `(tactic| (apply q_lstU; walk_at "ev"; walk_at "gs"; rfl; walk_at "nrm"))
local macro_rules | `(tactic| walk_at "R") => `(tactic| exact r_is_integer)
local macro_rules | `(tactic| walk_at "R") => `(tactic| exact r_is_between)
local macro_rules | `(tactic| walk_at "R") => `(tactic| exact r_is_day)
local macro_rules | `(tactic| walk_at "R") => `(tactic| exact r_check_year (by walk_at "side"))
local macro_rules | `(tactic| walk_at "R") => `(tactic| exact r_check_number (by walk_at "side"))
local macro_rules | `(tactic| walk_at "R") => `(tactic| exact r_check_life (by walk_at "side"))
local macro_rules | `(tactic| walk_at "R") => `(tactic| exact r_are_plants_of (by walk_at "side") (by walk_at "side"))
local macro_rules | `(tactic| walk_at "R") => `(tactic| exact r_check_plants (by walk_at "side") (by walk_at "side"))
local macro_rules | `(tactic| walk_at "R") => `(tactic| exact r_bearing_by (by walk_at "side") (by walk_at "side"))
local macro_rules | `(tactic| walk_at "R") => `(tactic| exact r_bearing (by walk_at "side") (by walk_at "side") (by walk_at "side"))
local macro_rules | `(tactic| walk_at "R") => `(tactic| exact r_bearings_of (by walk_at "side") (by walk_at "side"))
local macro_rules | `(tactic| walk_at "R") => `(tactic| exact r_least_bearing (by walk_at "side") (by walk_at "side"))
local macro_rules | `(tactic| walk_at "R") => `(tactic| exact r_most_bearing (by walk_at "side") (by walk_at "side"))
local macro_rules | `(tactic| walk_at "R") => `(tactic| exact r_even_plants (by walk_at "side") (by walk_at "side"))
local macro_rules | `(tactic| walk_at "R") => `(tactic| exact r_most_always (by walk_at "side") (by walk_at "side"))
local macro_rules | `(tactic| walk_at "R") => `(tactic| exact r_best_plants (by walk_at "side") (by walk_at "side"))
local macro_rules | `(tactic| walk_at "R") => `(tactic| exact r_common (by walk_at "side") (by walk_at "side"))
local macro_rules | `(tactic| walk_at "R") => `(tactic| exact r_reduced (by walk_at "side") (by walk_at "side"))
local macro_rules | `(tactic| walk_at "R") => `(tactic| exact r_is_name (by walk_at "side"))
local macro_rules | `(tactic| walk_at "R") => `(tactic| exact r_read_integer (by walk_at "side"))
local macro_rules | `(tactic| walk_at "R") => `(tactic| exact r_is_pattern (by walk_at "side"))
local macro_rules | `(tactic| walk_at "R") => `(tactic| exact r_palm_in (by walk_at "side"))
local macro_rules | `(tactic| walk_at "R") => `(tactic| exact r_is_new (by walk_at "side") (by walk_at "side") (by walk_at "side") (by walk_at "side") (by walk_at "side"))
local macro_rules | `(tactic| walk_at "R") => `(tactic| exact r_palm_names)
local macro_rules | `(tactic| walk_at "R") => `(tactic| exact r_years_of (by walk_at "side") (by walk_at "side"))
local macro_rules | `(tactic| walk_at "R") => `(tactic| exact r_dates_of (by walk_at "side") (by walk_at "side"))
local macro_rules | `(tactic| walk_at "R") => `(tactic| exact r_check_grove)
local macro_rules | `(tactic| walk_at "R") => `(tactic| exact r_check_palm (by walk_at "side") (by walk_at "side"))
local macro_rules | `(tactic| walk_at "R") => `(tactic| exact r_bears_in (by walk_at "side") (by walk_at "side"))
local macro_rules | `(tactic| walk_at "R") => `(tactic| exact r_bears (by walk_at "side") (by walk_at "side") (by walk_at "side"))
local macro_rules | `(tactic| walk_at "R") => `(tactic| exact r_baskets_in (by walk_at "side"))
local macro_rules | `(tactic| walk_at "R") => `(tactic| exact r_baskets (by walk_at "side") (by walk_at "side"))
local macro_rules | `(tactic| walk_at "R") => `(tactic| exact r_bits_of (by walk_at "side") (by walk_at "side"))
local macro_rules | `(tactic| walk_at "R") => `(tactic| exact r_years_of_lot (by walk_at "side") (by walk_at "side") (by walk_at "side"))
local macro_rules | `(tactic| walk_at "R") => `(tactic| exact r_is_some_lot (by walk_at "side"))
local macro_rules | `(tactic| walk_at "R") => `(tactic| exact r_years_all (by walk_at "side"))
local macro_rules | `(tactic| walk_at "R") => `(tactic| exact r_sums_of (by walk_at "side"))
local macro_rules | `(tactic| walk_at "R") => `(tactic| exact r_most_baskets (by walk_at "side"))
local macro_rules | `(tactic| walk_at "R") => `(tactic| exact r_least_baskets (by walk_at "side"))
local macro_rules | `(tactic| walk_at "R") => `(tactic| exact r_mean_baskets (by walk_at "side"))
local macro_rules | `(tactic| walk_at "R") => `(tactic| exact r_lengths_of (by walk_at "side"))
local macro_rules | `(tactic| walk_at "R") => `(tactic| exact r_shift_count (by walk_at "side"))
local macro_rules | `(tactic| walk_at "R") => `(tactic| exact r_check_shifts_few (by walk_at "side") (by walk_at "side"))
local macro_rules | `(tactic| walk_at "R") => `(tactic| exact r_all_shifts (by walk_at "side") (by walk_at "side"))
local macro_rules | `(tactic| walk_at "R") => `(tactic| exact r_rows_shifted (by walk_at "side"))
local macro_rules | `(tactic| walk_at "R") => `(tactic| exact r_sums_by (by walk_at "side") (by walk_at "side"))
local macro_rules | `(tactic| walk_at "R") => `(tactic| exact r_told_evenest (by walk_at "side") (by walk_at "side"))
local macro_rules | `(tactic| walk_at "R") => `(tactic| exact r_evenest (by walk_at "side") (by walk_at "side"))
/-! the law's own defs -/
section
variable {env : List Dl.Slot} {p : Addr} {a b c : D}
theorem ev_p0 (h : env[0]? = some (.own p (.lst [a, b, c]))) : Ev K (tOp (uIx K) (tVar 0) (tC (.int 0))) env a env := ev_ixW (j := 0) h ev_int h rfl
theorem ev_p1 (h : env[0]? = some (.own p (.lst [a, b, c]))) : Ev K (tOp (uIx K) (tVar 0) (tC (.int 1))) env b env := ev_ixW (j := 1) h ev_int h rfl
theorem ev_p2 (h : env[0]? = some (.own p (.lst [a, b, c]))) : Ev K (tOp (uIx K) (tVar 0) (tC (.int 2))) env c env := ev_ixW (j := 2) h ev_int h rfl
end
theorem bits_sm {i j : Int} (h : Sm i) (h0 : 0 ≤ j) (h2 : j ≤ 1000) : (Builtin.Int.intBits i : Int) * j ≤ 2 ^ 27 := by
  have h3 := h.log
  have h1 : (Builtin.Int.intBits i : Int) ≤ 1000 := by
    unfold Builtin.Int.intBits
    split <;> omega
  have := Int.mul_le_mul h1 h2 h0 (by omega)
  omega
def prm (c : Int) : Int := if c % 5 = 0 then 2147483647 else if c % 5 = 1 then 2147483629 else if c % 5 = 2 then 2147483587 else if c % 5 = 3 then 2147483579 else 2147483563
theorem prm_pos (c : Int) : 0 < prm c ∧ prm c ≤ 2147483647 := by unfold prm; repeat' split <;> omega
theorem prm_at (c : Int) : atI [D.int 2147483647, D.int 2147483629, D.int 2147483587, D.int 2147483579, D.int 2147483563] (c % 5) = some (.int (prm c)) := by
  have : c % 5 = 0 ∨ c % 5 = 1 ∨ c % 5 = 2 ∨ c % 5 = 3 ∨ c % 5 = 4 := by omega
  unfold prm
  rcases this with h | h | h | h | h <;> rw [h] <;> rfl
def made1 (b c : Int) : Int := (b + 97187 * c * c + 47) ^ 3 % prm c
def made2 (b c : Int) : Int := made1 b c * (made1 b c % 10159 + 101 * c) % 2305843009213693907
structure Pot where
  a : Int
  b : Int
  c : Int
abbrev Pot.l (o : Pot) : List D := [.int o.a, .int o.b, .int o.c]
structure PotOk (n : Int) (o : Pot) : Prop where
  a : 0 ≤ o.a
  b : 0 ≤ o.b ∧ o.b ≤ 2305843009213693951
  c : 0 ≤ o.c ∧ o.c ≤ n
def tkV (o : Pot) (u : Int) : Int := if 0 < o.a then o.a % u else made2 o.b (o.c + 1) / 107 % u
def tkP (o : Pot) (u : Int) : Pot := if 0 < o.a then ⟨o.a / u, o.b, o.c⟩ else ⟨o.a, o.b, o.c + 1⟩
theorem tkV_bd (o : Pot) {u : Int} (h : 1 ≤ u) : 0 ≤ tkV o u ∧ tkV o u < u := by
  unfold tkV
  split
  · exact ⟨Int.emod_nonneg _ (by omega), Int.emod_lt_of_pos _ (by omega)⟩
  · exact ⟨Int.emod_nonneg _ (by omega), Int.emod_lt_of_pos _ (by omega)⟩
theorem tkP_ok {n : Int} {o : Pot} (h : PotOk n o) {u : Int} (hu : 1 ≤ u) : PotOk (n + 1) (tkP o u) := by
  obtain ⟨h1, h2, h3⟩ := h
  unfold tkP
  split
  · exact ⟨Int.ediv_nonneg h1 (by omega), h2, by show 0 ≤ o.c ∧ o.c ≤ n + 1; omega⟩
  · exact ⟨h1, h2, by show 0 ≤ o.c + 1 ∧ o.c + 1 ≤ n + 1; omega⟩
def R_take (o : OD) (ds : List D) (d : D) (o' : OD) : Prop := ∃ (x : Pot) (u : Int), PotOk 1000 x ∧ (1 ≤ u ∧ u ≤ 100000) ∧ o = .lst x.l ∧ ds = [.int u] ∧ d = .int (tkV x u) ∧ o' = .lst (tkP x u).l
theorem r_take {x : Pot} {u : Int} (h : PotOk 1000 x) (h2 : 1 ≤ u ∧ u ≤ 100000) : R_take (.lst x.l) [.int u] (.int (tkV x u)) (.lst (tkP x u).l) := ⟨x, u, h, h2, rfl, rfl, rfl, rfl⟩
theorem sq_bd {c m : Int} (h : 0 ≤ c ∧ c ≤ m) : 0 ≤ c * c ∧ c * c ≤ m * m := ⟨Int.mul_nonneg h.1 h.1, Int.mul_le_mul h.2 h.2 h.1 (by omega)⟩
section
local macro_rules | `(tactic| walk_at "ev") => `(tactic| first | exact ev_p0 rfl | exact ev_p1 rfl | exact ev_p2 rfl)
theorem p_take : ∀ p o ds d o', R_take o ds d o' → St K (t__law_take K) (.own p o :: ds.map Slot.val ++ List.replicate (N__law_take.length - (ds.length + 1)) .no) { n := fun e => d = .non ∧ e[0]? = some (Slot.own p o'), r := fun d' e => d' = d ∧ e[0]? = some (Slot.own p o') } := by
  rintro p _ _ _ _ ⟨⟨a, b, c⟩, u, ⟨h1, h2, h3⟩, hu, rfl, rfl, rfl, rfl⟩
  have h1 : 0 ≤ a := h1
  have h2 : 0 ≤ b ∧ b ≤ 2305843009213693951 := h2
  have h3 : 0 ≤ c ∧ c ≤ 1000 := h3
  show St K _ [.own p (.lst [.int a, .int b, .int c]), .val (.int u), .no, .no, .no] _
  refine q_when (x := decide (0 < a)) (env1 := [.own p (.lst [.int a, .int b, .int c]), .val (.int u), .no, .no, .no]) (et_test (ev_op (ev_ixW (j := 0) rfl (by walk_at "ev") rfl rfl) (by walk_at "ev") d_gt)) (fun hx => ?_) (fun hx => ?_)
  · have hx : 0 < a := of_decide_eq_true hx
    refine q_asg (d := .int (a % u)) (env1 := [.own p (.lst [.int a, .int b, .int c]), .val (.int u), .no, .no, .no]) (ev_op (a := .int a) (ev_cb (ea_cons (ev_ixW (j := 0) rfl (by walk_at "ev") rfl rfl) ea_nil) d_int) (by walk_at "ev") (d_mod (by omega))) ?_
    refine q_setU (j := 0) (d := .int (a / u)) (env1 := [.own p (.lst [.int a, .int b, .int c]), .val (.int u), .val (.int (a % u)), .no, .no]) (env2 := [.own p (.lst [.int a, .int b, .int c]), .val (.int u), .val (.int (a % u)), .no, .no])
      (ev_op (a := .int a) (ev_ixW (j := 0) rfl (by walk_at "ev") rfl rfl) (by walk_at "ev") (d_div (by omega) (log_sm2 (by unfold Sm; omega)))) (by walk_at "ev") rfl rfl (by exact Nat.le_of_ble_eq_true rfl) ?_
    refine st_ret (d := .int (a % u)) (ev_var rfl) ⟨?_, ?_⟩
    · show D.int _ = D.int _
      rw [tkV, if_pos hx]
    · show some (Slot.own p _) = some (Slot.own p _)
      rw [tkP, if_pos hx]; rfl
  · have hx : ¬ 0 < a := of_decide_eq_false hx
    have hc := sq_bd (c := c + 1) (m := 1001) (by omega)
    have hp := prm_pos (c + 1)
    have ha := prm_at (c + 1)
    refine q_setU (j := 2) (d := .int (c + 1)) (env1 := [.own p (.lst [.int a, .int b, .int c]), .val (.int u), .no, .no, .no]) (env2 := [.own p (.lst [.int a, .int b, .int c]), .val (.int u), .no, .no, .no])
      (ev_op (a := .int c) (ev_ixW (j := 2) rfl (by walk_at "ev") rfl rfl) (by walk_at "ev") d_add) (by walk_at "ev") rfl rfl (by exact Nat.le_of_ble_eq_true rfl) ?_
    refine q_asg (d := .int (prm (c + 1))) (env1 := [.own p (.lst [.int a, .int b, .int (c + 1)]), .val (.int u), .no, .no, .no]) (ev_op (ev_lst (by walk_at "ea") (Nat.le_of_ble_eq_true rfl)) (ev_op (a := .int (c + 1)) (ev_cb (ea_cons (ev_ixW (j := 2) rfl (by walk_at "ev") rfl rfl) ea_nil) d_int) (by walk_at "ev") (d_mod (by omega))) (d_ixL ha)) ?_
    have e1 : 97187 * (c + 1) * (c + 1) = 97187 * ((c + 1) * (c + 1)) := Int.mul_assoc ..
    have m1 := mul_sm (i := 97187) (j := c + 1) (by unfold Sm; omega) (by unfold Sm; omega)
    have m2 := mul_sm (i := 97187 * (c + 1)) (j := c + 1) (by unfold Sm; omega) (by unfold Sm; omega)
    have m3 := bits_sm (i := b + 97187 * (c + 1) * (c + 1) + 47) (j := 3) (by rw [e1]; unfold Sm; omega) (by omega) (by omega)
    have b1 : 0 ≤ made1 b (c + 1) ∧ made1 b (c + 1) < 2147483647 := ⟨Int.emod_nonneg _ (by omega), Int.lt_of_lt_of_le (Int.emod_lt_of_pos _ hp.1) hp.2⟩
    have b2 : 0 ≤ made1 b (c + 1) % 10159 ∧ made1 b (c + 1) % 10159 < 10159 := by omega
    have m4 := mul_sm (i := 101) (j := c + 1) (by unfold Sm; omega) (by unfold Sm; omega)
    have m5 := mul_sm (i := made1 b (c + 1)) (j := made1 b (c + 1) % 10159 + 101 * (c + 1)) (by unfold Sm; omega) (by unfold Sm; omega)
    refine q_asg (d := .int (made1 b (c + 1))) (env1 := [.own p (.lst [.int a, .int b, .int (c + 1)]), .val (.int u), .no, .val (.int (prm (c + 1))), .no]) ?_ ?_
    · refine ev_op (a := .int ((b + 97187 * (c + 1) * (c + 1) + 47) ^ 3)) (ev_cb (ea_cons (ev_op (a := .int (b + 97187 * (c + 1) * (c + 1) + 47)) (by walk_at "ev") (by walk_at "ev") (d_pow (by omega) m3)) ea_nil) d_int) (by walk_at "ev") (d_mod (by omega))
    refine q_asg (d := .int (made2 b (c + 1))) (env1 := [.own p (.lst [.int a, .int b, .int (c + 1)]), .val (.int u), .no, .val (.int (prm (c + 1))), .val (.int (made1 b (c + 1)))]) (by walk_at "ev") ?_
    refine st_ret (d := .int (made2 b (c + 1) / 107 % u)) (env1 := [.own p (.lst [.int a, .int b, .int (c + 1)]), .val (.int u), .no, .val (.int (prm (c + 1))), .val (.int (made2 b (c + 1)))]) (by walk_at "ev") ⟨?_, ?_⟩
    · show D.int _ = D.int _
      rw [tkV, if_neg hx]
    · show some (Slot.own p _) = some (Slot.own p _)
      rw [tkP, if_neg hx]
end
/-! the cells, the pot -/
def R_cells (ds : List D) (d : D) : Prop := ∃ ns : List Int, ds = [.scr ns, .int 2] ∧ d = .lst ((List.range (max 1 (min 2 ((ns.length : Nat) : Int))).toNat).map fun i => D.int (i : Nat))
theorem r_cells {ns : List Int} : R_cells [.scr ns, .int 2] (.lst ((List.range (max 1 (min 2 ((ns.length : Nat) : Int))).toNat).map fun i => D.int (i : Nat))) := ⟨ns, rfl, rfl⟩
theorem p_cells : ∀ ds d, R_cells ds d → St K (t__law_cells K) (ds.map Slot.val ++ List.replicate (N__law_cells.length - ds.length) .no) (Ret d) := by
  rintro _ _ ⟨ns, rfl, rfl⟩
  show St K _ [.val (.scr ns), .val (.int 2)] _
  refine st_ret (env1 := [.val (.scr ns), .val (.int 2)]) (ev_lstRg (n := max 1 (min 2 ((ns.length : Nat) : Int))) (by walk_at "ev") (by omega) (by omega)) rfl
local macro_rules | `(tactic| walk_at "R") => `(tactic| exact r_cells)
end K83

set_option Elab.async false
set_option linter.all false
set_option maxRecDepth 100000
set_option maxHeartbeats 4000000
set_option autoImplicit false
namespace K83
open PySem L2 Dl StX
open Evl (Ex fresh_back ex_rd)
variable {K : PySem.W.Frag}
local macro_rules | `(tactic| walk_at "side") => `(tactic| focus (first | assumption | rfl | exact Nat.le_of_ble_eq_true rfl | omega | decide | (simp; done) | (simp; omega)))
local macro_rules | `(tactic| walk_at "ix") => `(tactic| first | rfl | assumption | exact atI_nat (by focus (first | rfl | assumption | (simp; done))))
local macro_rules | `(tactic| walk_at "log") => `(tactic| first | assumption | exact mul_sm (by unfold Sm; omega) (by unfold Sm; omega) | exact log_sm2 (by unfold Sm; omega) | exact log_sm (by unfold Sm; omega) | decide)
local macro_rules | `(tactic| walk_at "R") => `(tactic| fail "no R")
local macro_rules | `(tactic| walk_at "r2") => `(tactic| first
  | exact d_add | exact d_sub | exact d_lt | exact d_le | exact d_gt | exact d_ge | exact d_eqI | exact d_neI | exact d_eqS | exact d_neS | exact d_eqB | exact d_neB
  | exact d_eqT2 | exact d_neT2 | exact d_eqTI | exact d_neTI | exact d_eqLI | exact d_neLI | (apply d_eqTS; assumption; assumption)
  | exact d_isN | exact d_ntN | exact d_isB | exact d_ntB
  | (apply d_mod; walk_at "side") | (apply d_div; walk_at "side"; walk_at "log") | (apply d_mul; walk_at "log") | (apply d_pow; walk_at "side"; walk_at "log")
  | exact d_inS | exact d_niS | exact d_inST | exact d_niST | exact d_inG | exact d_niG
  | (apply d_ixL; walk_at "ix") | (apply d_ixT; walk_at "ix") | (apply d_ixR; walk_at "ix") | (apply d_ixS; walk_at "side"; walk_at "ix") | (apply d_ixDs; walk_at "ix")
  | (apply d_inD; walk_at "side") | (apply d_niD; walk_at "side")
  | (apply d_addS; walk_at "side") | (apply d_addL; walk_at "side") | (apply d_addT; walk_at "side"))
local macro_rules | `(tactic| walk_at "ra") => `(tactic| first
  | exact d_lenL | exact d_lenT | (apply d_lenS; walk_at "side") | exact d_lenR | exact d_lenD | exact d_sum | exact d_all | exact d_any
  | (apply d_max; walk_at "side") | (apply d_min; walk_at "side") | exact d_max2 | exact d_min2 | exact d_abs | exact d_int | exact d_intB
  | (apply d_intS; walk_at "side"; walk_at "side") | (apply d_str; walk_at "log") | exact d_listL | exact d_listT | exact d_listD | exact d_tupL | exact d_sorted
  | (apply d_isiC; assumption)
  | exact d_isiTy (b := true) rfl (by decide +kernel) | exact d_isiTy (b := false) rfl (by decide +kernel))
local macro_rules | `(tactic| walk_at "gs") => `(tactic| first
  | exact gs_nil | (apply gs_cons; walk_at "gd"; walk_at "gs"))
local macro_rules | `(tactic| walk_at "gd") => `(tactic| first
  | exact gd_name (by decide) | (apply gd_tupU; walk_at "gs"; rfl) | (apply gd_lstU; walk_at "gs"; rfl))
local macro_rules | `(tactic| walk_at "ea") => `(tactic| first
  | exact ea_nil | (apply ea_cons; walk_at "ev"; walk_at "ea") | (apply ea_starT; walk_at "ev"; walk_at "ea") | (apply ea_starL; walk_at "ev"; walk_at "ea"))
local macro_rules | `(tactic| walk_at "eo") => `(tactic| first
  | exact eo_none | (apply eo_some; walk_at "ev"))
local macro_rules | `(tactic| walk_at "it") => `(tactic| first
  | (apply it_r1; walk_at "ea"; walk_at "side"; walk_at "side")
  | (apply it_r2; walk_at "ea"; walk_at "side"; walk_at "side"; walk_at "side"; walk_at "side")
  | (apply it_en; walk_at "ea"; first | exact Or.inl rfl | exact Or.inr rfl)
  | (apply it_zp; walk_at "ea"; (first | exact Or.inl rfl | exact Or.inr rfl); (first | exact Or.inl rfl | exact Or.inr rfl))
  | (apply it_anyL; walk_at "ev") | (apply it_anyT; walk_at "ev") | (apply it_anyS; walk_at "ev"))
local macro_rules | `(tactic| walk_at "hds") => `(tactic| first | rfl | exact (List.map_id _).symm)
local macro_rules | `(tactic| walk_at "turn1") => `(tactic| (intro a ha; apply ex2; walk_at "gd"; walk_at "ev"))
local macro_rules | `(tactic| walk_at "turn2") => `(tactic| (intro a ha; apply ex3; walk_at "gd"; walk_at "et"; (intro hb; walk_at "ev")))
local macro_rules | `(tactic| walk_at "lc") => `(tactic| first
  | (apply en_lc1I; walk_at "it"; walk_at "hds"; exact trivial; walk_at "side"; walk_at "turn1")
  | (apply en_lc1B; walk_at "it"; walk_at "hds"; exact trivial; walk_at "side"; walk_at "turn1")
  | (apply en_lc1S; walk_at "it"; walk_at "hds"; exact trivial; walk_at "side"; walk_at "turn1")
  | (apply en_lc1; walk_at "it"; walk_at "hds"; exact trivial; walk_at "side"; walk_at "turn1")
  | (apply en_lcI; walk_at "it"; walk_at "hds"; exact trivial; walk_at "side"; walk_at "turn2")
  | (apply en_lcS; walk_at "it"; walk_at "hds"; exact trivial; walk_at "side"; walk_at "turn2")
  | (apply en_lc; walk_at "it"; walk_at "hds"; exact trivial; walk_at "side"; walk_at "turn2"))
local macro_rules | `(tactic| walk_at "ev") => `(tactic| first
  | exact ev_int | exact ev_str | exact ev_bl | exact ev_non | exact ev_ty | exact ev_adr | exact ev_var rfl
  | (apply ev_op; walk_at "ev"; walk_at "ev"; walk_at "r2")
  | (apply ev_ixW; rfl; walk_at "ev"; rfl; walk_at "ix")
  | (apply ev_un; walk_at "ev"; exact d_uNeg)
  | (apply ev_cb; walk_at "ea"; walk_at "ra")
  | (apply ev_tup; walk_at "ea"; walk_at "side")
  | (apply ev_call; walk_at "ea"; walk_at "R")
  | (apply ev_meth; walk_at "ev"; decide; walk_at "ea"; walk_at "R")
  | (apply ev_prop; walk_at "ev"; walk_at "R")
  | (apply ev_fldS; walk_at "ev"; rfl; assumption; assumption)
  | (apply ev_eqE; walk_at "ev") | (apply ev_neE; walk_at "ev")
  | (apply ev_fz; walk_at "lc")
  | (apply ev_lst; walk_at "ea"; walk_at "side")
  | (apply ev_andV; walk_at "ev"; (intro h1; walk_at "ev"))
  | (apply ev_orV; walk_at "ev"; (intro h1; walk_at "ev"))
  | (apply ev_notV; walk_at "ev")
  | (apply ev_chain; walk_at "ev"; walk_at "ev"; walk_at "r2"; (intro h1; apply And.intro; walk_at "ev"; walk_at "r2"))
  | (apply ev_slL; walk_at "ev"; walk_at "eo"; walk_at "eo")
  | (apply ev_slT; walk_at "ev"; walk_at "eo"; walk_at "eo")
  | (apply ev_slS; walk_at "ev"; walk_at "eo"; walk_at "eo"; walk_at "side")
  | (apply ev_indexI; walk_at "ev"; walk_at "ev"; walk_at "side"))
local macro_rules | `(tactic| walk_at "et") => `(tactic| first
  | (apply et_test; walk_at "ev") | (apply et_B; walk_at "ev") | (apply et_not; walk_at "et")
  | (apply et_and; walk_at "et"; (intro h1; walk_at "et")) | (apply et_or; walk_at "et"; (intro h1; walk_at "et")) | exact et_yes)
local macro_rules | `(tactic| walk_at "nrm") => `(tactic| (try simp only [List.set_cons_succ, List.set_cons_zero]))
local macro_rules | `(tactic| walk_at "asg") => `(tactic| (apply q_asg; walk_at "ev"; walk_at "nrm"))
local macro_rules | `(tactic| walk_at "drop") => `(tactic| (apply q_drop; walk_at "ev"))
local macro_rules | `(tactic| walk_at "tup") => `(tactic| (apply q_tupU; walk_at "ev"; walk_at "gs"; rfl; walk_at "nrm"))
local macro_rules | `(tactic| walk_at "ret") => `(tactic| (apply st_ret; walk_at "ev"))
local macro_rules | `(tactic| walk_at "bf") => `(tactic| focus (first | rfl | (simp; done) | (simp; omega) | (simp [*]; done) | (simp [*]; omega)))
local macro_rules | `(tactic| walk_at "no") => `(tactic| (apply q_no; walk_at "et"; walk_at "bf"))
local macro_rules | `(tactic| walk_at "chk") => `(tactic| (apply st_chk; walk_at "et"; walk_at "bf"; rfl))
local macro_rules | `(tactic| walk_at "unl") => `(tactic| (apply q_lstU; walk_at "ev"; walk_at "gs"; rfl; walk_at "nrm"))
local macro_rules | `(tactic| walk_at "R") => `(tactic| exact r_is_integer)
local macro_rules | `(tactic| walk_at "R") => `(tactic| exact r_is_between)
local macro_rules | `(tactic| walk_at "R") => `(tactic| exact r_is_day)
local macro_rules | `(tactic| walk_at "R") => `(tactic| exact r_check_year (by walk_at "side"))
local macro_rules | `(tactic| walk_at "R") => `(tactic| exact r_check_number (by walk_at "side"))
local macro_rules | `(tactic| walk_at "R") => `(tactic| exact r_check_life (by walk_at "side"))
local macro_rules | `(tactic| walk_at "R") => `(tactic| exact r_are_plants_of (by walk_at "side") (by walk_at "side"))
local macro_rules | `(tactic| walk_at "R") => `(tactic| exact r_check_plants (by walk_at "side") (by walk_at "side"))
local macro_rules | `(tactic| walk_at "R") => `(tactic| exact r_bearing_by (by walk_at "side") (by walk_at "side"))
local macro_rules | `(tactic| walk_at "R") => `(tactic| exact r_bearing (by walk_at "side") (by walk_at "side") (by walk_at "side"))
local macro_rules | `(tactic| walk_at "R") => `(tactic| exact r_bearings_of (by walk_at "side") (by walk_at "side"))
local macro_rules | `(tactic| walk_at "R") => `(tactic| exact r_least_bearing (by walk_at "side") (by walk_at "side"))
local macro_rules | `(tactic| walk_at "R") => `(tactic| exact r_most_bearing (by walk_at "side") (by walk_at "side"))
local macro_rules | `(tactic| walk_at "R") => `(tactic| exact r_even_plants (by walk_at "side") (by walk_at "side"))
local macro_rules | `(tactic| walk_at "R") => `(tactic| exact r_most_always (by walk_at "side") (by walk_at "side"))
local macro_rules | `(tactic| walk_at "R") => `(tactic| exact r_best_plants (by walk_at "side") (by walk_at "side"))
local macro_rules | `(tactic| walk_at "R") => `(tactic| exact r_common (by walk_at "side") (by walk_at "side"))
local macro_rules | `(tactic| walk_at "R") => `(tactic| exact r_reduced (by walk_at "side") (by walk_at "side"))
local macro_rules | `(tactic| walk_at "R") => `(tactic| exact r_is_name (by walk_at "side"))
local macro_rules | `(tactic| walk_at "R") => `(tactic| exact r_read_integer (by walk_at "side"))
local macro_rules | `(tactic| walk_at "R") => `(tactic| exact r_is_pattern (by walk_at "side"))
local macro_rules | `(tactic| walk_at "R") => `(tactic| exact r_palm_in (by walk_at "side"))
local macro_rules | `(tactic| walk_at "R") => `(tactic| exact r_is_new (by walk_at "side") (by walk_at "side") (by walk_at "side") (by walk_at "side") (by walk_at "side"))
local macro_rules | `(tactic| walk_at "R") => `(tactic| exact r_palm_names)
local macro_rules | `(tactic| walk_at "R") => `(tactic| exact r_years_of (by walk_at "side") (by walk_at "side"))
local macro_rules | `(tactic| walk_at "R") => `(tactic| exact r_dates_of (by walk_at "side") (by walk_at "side"))
local macro_rules | `(tactic| walk_at "R") => `(tactic| exact r_check_grove)
local macro_rules | `(tactic| walk_at "R") => `(tactic| exact r_check_palm (by walk_at "side") (by walk_at "side"))
local macro_rules | `(tactic| walk_at "R") => `(tactic| exact r_bears_in (by walk_at "side") (by walk_at "side"))
local macro_rules | `(tactic| walk_at "R") => `(tactic| exact r_bears (by walk_at "side") (by walk_at "side") (by walk_at "side"))
local macro_rules | `(tactic| walk_at "R") => `(tactic| exact r_baskets_in (by walk_at "side"))
local macro_rules | `(tactic| walk_at "R") => `(tactic| exact r_baskets (by walk_at "side") (by walk_at "side"))
local macro_rules | `(tactic| walk_at "R") => `(tactic| exact r_bits_of (by walk_at "side") (by walk_at "side"))
local macro_rules | `(tactic| walk_at "R") => `(tactic| exact r_years_of_lot (by walk_at "side") (by walk_at "side") (by walk_at "side"))
local macro_rules | `(tactic| walk_at "R") => `(tactic| exact r_is_some_lot (by walk_at "side"))
local macro_rules | `(tactic| walk_at "R") => `(tactic| exact r_years_all (by walk_at "side"))
local macro_rules | `(tactic| walk_at "R") => `(tactic| exact r_sums_of (by walk_at "side"))
local macro_rules | `(tactic| walk_at "R") => `(tactic| exact r_most_baskets (by walk_at "side"))
local macro_rules | `(tactic| walk_at "R") => `(tactic| exact r_least_baskets (by walk_at "side"))
local macro_rules | `(tactic| walk_at "R") => `(tactic| exact r_mean_baskets (by walk_at "side"))
local macro_rules | `(tactic| walk_at "R") => `(tactic| exact r_lengths_of (by walk_at "side"))
local macro_rules | `(tactic| walk_at "R") => `(tactic| exact r_shift_count (by walk_at "side"))
local macro_rules | `(tactic| walk_at "R") => `(tactic| exact r_check_shifts_few (by walk_at "side") (by walk_at "side"))
local macro_rules | `(tactic| walk_at "R") => `(tactic| exact r_all_shifts (by walk_at "side") (by walk_at "side"))
local macro_rules | `(tactic| walk_at "R") => `(tactic| exact r_rows_shifted (by walk_at "side"))
local macro_rules | `(tactic| walk_at "R") => `(tactic| exact r_sums_by (by walk_at "side") (by walk_at "side"))
local macro_rules | `(tactic| walk_at "R") => `(tactic| exact r_told_evenest (by walk_at "side") (by walk_at "side"))
local macro_rules | `(tactic| walk_at "R") => `(tactic| exact r_evenest (by walk_at "side") (by walk_at "side"))
local macro_rules | `(tactic| walk_at "R") => `(tactic| exact r_cells)
def cellV (ns : List Int) (i : Nat) : Int := ns.getD i (67 * (i : Nat) + 31)
def potV (ns : List Int) (i : Nat) : Pot := ⟨((cellV ns i).natAbs : Int) % (10 ^ (60 : Int).toNat) ^ (5 : Int).toNat * (if decide ((10 : Int) ^ (18 : Int).toNat ≤ ((cellV ns i).natAbs : Int)) then 1 else 0), (cellV ns i % 2305843009213693951 * 84391 + 7369 * (i : Nat) * (i : Nat) + 73) % 2305843009213693921, 0⟩
theorem potV_ok (ns : List Int) (i : Nat) : PotOk 0 (potV ns i) := by
  refine ⟨?_, ⟨Int.emod_nonneg _ (by decide), ?_⟩, ⟨Int.le_refl _, Int.le_refl _⟩⟩
  · refine Int.mul_nonneg (Int.emod_nonneg _ (by decide +kernel)) ?_
    split <;> decide
  · have := Int.emod_lt_of_pos (cellV ns i % 2305843009213693951 * 84391 + 7369 * (i : Nat) * (i : Nat) + 73) (b := 2305843009213693921) (by decide)
    show _ ≤ _
    have e : (potV ns i).b = (cellV ns i % 2305843009213693951 * 84391 + 7369 * (i : Nat) * (i : Nat) + 73) % 2305843009213693921 := rfl
    omega
def R_pot (ds es : List D) : Prop := ∃ (ns : List Int) (i : Nat), i ≤ 100 ∧ ds = [.scr ns, .int (i : Nat)] ∧ es = (potV ns i).l
theorem r_pot {ns : List Int} {i : Nat} (h : i ≤ 100) : R_pot [.scr ns, .int (i : Nat)] (potV ns i).l := ⟨ns, i, h, rfl, rfl⟩
theorem p_pot : ∀ (vs : List V) (H : Hp) (Q : VK) (E : XK), spN K R_pot vs H Q E → t__law_pot K { nx := fun _ H' => Q .non H', rt := Q } (L2.start N__law_pot vs) H := by
  rintro vs H Q E ⟨F, _, _, e, r, ⟨ns, i, hi, rfl, rfl⟩, q⟩
  have w0 : W K F H (L2.start N__law_pot vs) [.val (.scr ns), .val (.int (i : Nat)), .no, .no, .no] := w_start (K := K) (N := N__law_pot) (ds := [.scr ns, .int (i : Nat)]) e r
  generalize L2.start N__law_pot vs = σ at w0
  have hs1 := sq_bd (c := ((i : Nat) : Int)) (m := 100) (by omega)
  have l1 := mul_sm (i := 67) (j := ((i : Nat) : Int)) (by unfold Sm; omega) (by unfold Sm; omega)
  refine w_asg (d := .int (cellV ns i)) (env1 := [.val (.scr ns), .val (.int (i : Nat)), .no, .no, .no]) w0 ?_ rfl rfl fun v1 F1 H1 w1 e1 g1 => ?_
  · refine ev_if (x := decide (((i : Nat) : Int) < (ns.length : Nat))) (by walk_at "et") (fun hx => ?_) (fun hx => ?_)
    · have hx : i < ns.length := by have := of_decide_eq_true hx; omega
      refine ev_op (by walk_at "ev") (by walk_at "ev") (d_ixR (atI_nat ?_))
      rw [cellV, List.getD_eq_getElem?_getD, List.getElem?_eq_getElem hx]; rfl
    · have hx : ¬ i < ns.length := by have := of_decide_eq_false hx; omega
      have e : cellV ns i = 67 * (i : Nat) + 31 := by rw [cellV, List.getD_eq_getElem?_getD, List.getElem?_eq_none (by omega)]; rfl
      rw [e]
      walk_at "ev"
  have p1 := bits_sm (i := 10) (j := 60) (by unfold Sm; omega) (by omega) (by omega)
  have p2 : (Builtin.Int.intBits (10 ^ (60 : Int).toNat) : Int) * 5 ≤ 2 ^ 27 := by decide +kernel
  have p3 := bits_sm (i := 10) (j := 18) (by unfold Sm; omega) (by omega) (by omega)
  have p4 : (0 : Int) < (10 ^ (60 : Int).toNat) ^ (5 : Int).toNat := by decide +kernel
  have p5 : (((cellV ns i).natAbs : Int) % (10 ^ (60 : Int).toNat) ^ (5 : Int).toNat).natAbs.log2 ≤ 999 := by
    apply log_le
    have m1 := Int.emod_nonneg ((cellV ns i).natAbs : Int) (Int.ne_of_gt p4)
    have m2 := Int.emod_lt_of_pos ((cellV ns i).natAbs : Int) p4
    have m3 : ((10 : Int) ^ (60 : Int).toNat) ^ (5 : Int).toNat ≤ ((2 ^ (999 + 1) : Nat) : Int) := by decide +kernel
    generalize ((cellV ns i).natAbs : Int) % (10 ^ (60 : Int).toNat) ^ (5 : Int).toNat = x at m1 m2
    generalize ((10 : Int) ^ (60 : Int).toNat) ^ (5 : Int).toNat = y at m2 m3
    generalize (2 : Nat) ^ (999 + 1) = z at m3
    omega
  have p6 : ((if decide ((10 : Int) ^ (18 : Int).toNat ≤ ((cellV ns i).natAbs : Int)) then 1 else 0 : Int)).natAbs.log2 ≤ 0 := by split <;> decide
  refine w_asg (d := .int (potV ns i).a) (env1 := [.val (.scr ns), .val (.int (i : Nat)), .val (.int (cellV ns i)), .no, .no]) w1 ?_ rfl rfl fun v2 F2 H2 w2 e2 g2 => ?_
  · refine ev_op (a := .int (((cellV ns i).natAbs : Int) % (10 ^ (60 : Int).toNat) ^ (5 : Int).toNat)) (b := .int (if decide ((10 : Int) ^ (18 : Int).toNat ≤ ((cellV ns i).natAbs : Int)) then 1 else 0)) (by walk_at "ev") (by walk_at "ev") (d_mul (by omega))
  refine w_asg (d := .int (cellV ns i % 2305843009213693951)) (env1 := [.val (.scr ns), .val (.int (i : Nat)), .val (.int (cellV ns i)), .val (.int (potV ns i).a), .no]) w2 (by walk_at "ev") rfl rfl fun v3 F3 H3 w3 e3 g3 => ?_
  have b1 := Int.emod_nonneg (cellV ns i) (b := 2305843009213693951) (by decide)
  have b2 := Int.emod_lt_of_pos (cellV ns i) (b := 2305843009213693951) (by decide)
  have l2 := mul_sm (i := cellV ns i % 2305843009213693951) (j := 84391) (by unfold Sm; omega) (by unfold Sm; omega)
  have l3 := mul_sm (i := 7369) (j := ((i : Nat) : Int)) (by unfold Sm; omega) (by unfold Sm; omega)
  have l4 := mul_sm (i := 7369 * ((i : Nat) : Int)) (j := ((i : Nat) : Int)) (by unfold Sm; omega) (by unfold Sm; omega)
  have n3 : NoOwn ([Slot.val (.scr ns), .val (.int (i : Nat)), .val (.int (cellV ns i)), .val (.int (potV ns i).a), .val (.int (cellV ns i % 2305843009213693951))]) := rfl
  refine w_en (ds := (potV ns i).l) (env1 := [.val (.scr ns), .val (.int (i : Nat)), .val (.int (cellV ns i)), .val (.int (potV ns i).a), .val (.int (cellV ns i % 2305843009213693951))]) w3 (en_lst ?_ (Nat.le_of_ble_eq_true rfl)) n3 fun p us F4 H4 w4 e4 g4 hp hF hH hr => ?_
  · refine ea_cons (ev_var rfl) (ea_cons ?_ (ea_cons ev_int ea_nil))
    refine ev_op (a := .int (cellV ns i % 2305843009213693951 * 84391 + 7369 * (i : Nat) * (i : Nat) + 73)) (by walk_at "ev") (by walk_at "ev") (d_mod (by decide))
  · have gg : Gr H F F4 := g1.trans (Gr.weak e1 (g2.trans (Gr.weak e2 (g3.trans (Gr.weak e3 g4)))))
    have ee : Ex H H4 := e1.trans (e2.trans (e3.trans e4))
    exact q p us F4 H4 ⟨ee, gg.f, w4.fh, gg.no⟩ (fresh_back (e1.trans (e2.trans e3)) hp) hF hH hr
end K83

set_option Elab.async false
set_option linter.all false
set_option maxRecDepth 100000
set_option maxHeartbeats 4000000
set_option autoImplicit false
namespace K83
open PySem L2 Dl StX
open Evl (Ex fresh_back ex_rd)
variable {K : PySem.W.Frag}
local macro_rules | `(tactic| walk_at "side") => `(tactic| focus (first | assumption | rfl | exact Nat.le_of_ble_eq_true rfl | omega | decide | (simp; done) | (simp; omega)))
local macro_rules | `(tactic| walk_at "ix") => `(tactic| first | rfl | assumption | exact atI_nat (by focus (first | rfl | assumption | (simp; done))))
local macro_rules | `(tactic| walk_at "log") => `(tactic| first | assumption | exact mul_sm (by unfold Sm; omega) (by unfold Sm; omega) | exact log_sm2 (by unfold Sm; omega) | exact log_sm (by unfold Sm; omega) | decide)
local macro_rules | `(tactic| walk_at "R") => `(tactic| fail "no R")
local macro_rules | `(tactic| walk_at "r2") => `(tactic| first
  | exact d_add | exact d_sub | exact d_lt | exact d_le | exact d_gt | exact d_ge | exact d_eqI | exact d_neI | exact d_eqS | exact d_neS | exact d_eqB | exact d_neB
  | exact d_eqT2 | exact d_neT2 | exact d_eqTI | exact d_neTI | exact d_eqLI | exact d_neLI | (apply d_eqTS; assumption; assumption)
  | exact d_isN | exact d_ntN | exact d_isB | exact d_ntB
  | (apply d_mod; walk_at "side") | (apply d_div; walk_at "side"; walk_at "log") | (apply d_mul; walk_at "log") | (apply d_pow; walk_at "side"; walk_at "log")
  | exact d_inS | exact d_niS | exact d_inST | exact d_niST | exact d_inG | exact d_niG
  | (apply d_ixL; walk_at "ix") | (apply d_ixT; walk_at "ix") | (apply d_ixR; walk_at "ix") | (apply d_ixS; walk_at "side"; walk_at "ix") | (apply d_ixDs; walk_at "ix")
  | (apply d_inD; walk_at "side") | (apply d_niD; walk_at "side")
  | (apply d_addS; walk_at "side") | (apply d_addL; walk_at "side") | (apply d_addT; walk_at "side"))
local macro_rules | `(tactic| walk_at "ra") => `(tactic| first
  | exact d_lenL | exact d_lenT | (apply d_lenS; walk_at "side") | exact d_lenR | exact d_lenD | exact d_sum | exact d_all | exact d_any
  | (apply d_max; walk_at "side") | (apply d_min; walk_at "side") | exact d_max2 | exact d_min2 | exact d_abs | exact d_int | exact d_intB
  | (apply d_intS; walk_at "side"; walk_at "side") | (apply d_str; walk_at "log") | exact d_listL | exact d_listT | exact d_listD | exact d_tupL | exact d_sorted
  | (apply d_isiC; assumption)
  | exact d_isiTy (b := true) rfl (by decide +kernel) | exact d_isiTy (b := false) rfl (by decide +kernel))
local macro_rules | `(tactic| walk_at "gs") => `(tactic| first
  | exact gs_nil | (apply gs_cons; walk_at "gd"; walk_at "gs"))
local macro_rules | `(tactic| walk_at "gd") => `(tactic| first
  | exact gd_name (by decide) | (apply gd_tupU; walk_at "gs"; rfl) | (apply gd_lstU; walk_at "gs"; rfl))
local macro_rules | `(tactic| walk_at "ea") => `(tactic| first
  | exact ea_nil | (apply ea_cons; walk_at "ev"; walk_at "ea") | (apply ea_starT; walk_at "ev"; walk_at "ea") | (apply ea_starL; walk_at "ev"; walk_at "ea"))
local macro_rules | `(tactic| walk_at "eo") => `(tactic| first
  | exact eo_none | (apply eo_some; walk_at "ev"))
local macro_rules | `(tactic| walk_at "it") => `(tactic| first
  | (apply it_r1; walk_at "ea"; walk_at "side"; walk_at "side")
  | (apply it_r2; walk_at "ea"; walk_at "side"; walk_at "side"; walk_at "side"; walk_at "side")
  | (apply it_en; walk_at "ea"; first | exact Or.inl rfl | exact Or.inr rfl)
  | (apply it_zp; walk_at "ea"; (first | exact Or.inl rfl | exact Or.inr rfl); (first | exact Or.inl rfl | exact Or.inr rfl))
  | (apply it_anyL; walk_at "ev") | (apply it_anyT; walk_at "ev") | (apply it_anyS; walk_at "ev"))
local macro_rules | `(tactic| walk_at "hds") => `(tactic| first | rfl | exact (List.map_id _).symm)
local macro_rules | `(tactic| walk_at "turn1") => `(tactic| (intro a ha; apply ex2; walk_at "gd"; walk_at "ev"))
local macro_rules | `(tactic| walk_at "turn2") => `(tactic| (intro a ha; apply ex3; walk_at "gd"; walk_at "et"; (intro hb; walk_at "ev")))
local macro_rules | `(tactic| walk_at "lc") => `(tactic| first
  | (apply en_lc1I; walk_at "it"; walk_at "hds"; exact trivial; walk_at "side"; walk_at "turn1")
  | (apply en_lc1B; walk_at "it"; walk_at "hds"; exact trivial; walk_at "side"; walk_at "turn1")
  | (apply en_lc1S; walk_at "it"; walk_at "hds"; exact trivial; walk_at "side"; walk_at "turn1")
  | (apply en_lc1; walk_at "it"; walk_at "hds"; exact trivial; walk_at "side"; walk_at "turn1")
  | (apply en_lcI; walk_at "it"; walk_at "hds"; exact trivial; walk_at "side"; walk_at "turn2")
  | (apply en_lcS; walk_at "it"; walk_at "hds"; exact trivial; walk_at "side"; walk_at "turn2")
  | (apply en_lc; walk_at "it"; walk_at "hds"; exact trivial; walk_at "side"; walk_at "turn2"))
local macro_rules | `(tactic| walk_at "ev") => `(tactic| first
  | exact ev_int | exact ev_str | exact ev_bl | exact ev_non | exact ev_ty | exact ev_adr | exact ev_var rfl
  | (apply ev_op; walk_at "ev"; walk_at "ev"; walk_at "r2")
  | (apply ev_ixW; rfl; walk_at "ev"; rfl; walk_at "ix")
  | (apply ev_un; walk_at "ev"; exact d_uNeg)
  | (apply ev_cb; walk_at "ea"; walk_at "ra")
  | (apply ev_tup; walk_at "ea"; walk_at "side")
  | (apply ev_call; walk_at "ea"; walk_at "R")
  | (apply ev_meth; walk_at "ev"; decide; walk_at "ea"; walk_at "R")
  | (apply ev_prop; walk_at "ev"; walk_at "R")
  | (apply ev_fldS; walk_at "ev"; rfl; assumption; assumption)
  | (apply ev_eqE; walk_at "ev") | (apply ev_neE; walk_at "ev")
  | (apply ev_fz; walk_at "lc")
  | (apply ev_lst; walk_at "ea"; walk_at "side")
  | (apply ev_andV; walk_at "ev"; (intro h1; walk_at "ev"))
  | (apply ev_orV; walk_at "ev"; (intro h1; walk_at "ev"))
  | (apply ev_notV; walk_at "ev")
  | (apply ev_chain; walk_at "ev"; walk_at "ev"; walk_at "r2"; (intro h1; apply And.intro; walk_at "ev"; walk_at "r2"))
  | (apply ev_slL; walk_at "ev"; walk_at "eo"; walk_at "eo")
  | (apply ev_slT; walk_at "ev"; walk_at "eo"; walk_at "eo")
  | (apply ev_slS; walk_at "ev"; walk_at "eo"; walk_at "eo"; walk_at "side")
  | (apply ev_indexI; walk_at "ev"; walk_at "ev"; walk_at "side"))
local macro_rules | `(tactic| walk_at "et") => `(tactic| first
  | (apply et_test; walk_at "ev") | (apply et_B; walk_at "ev") | (apply et_not; walk_at "et")
  | (apply et_and; walk_at "et"; (intro h1; walk_at "et")) | (apply et_or; walk_at "et"; (intro h1; walk_at "et")) | exact et_yes)
local macro_rules | `(tactic| walk_at "nrm") => `(tactic| (try simp only [List.set_cons_succ, List.set_cons_zero]))
local macro_rules | `(tactic| walk_at "asg") => `(tactic| (apply q_asg; walk_at "ev"; walk_at "nrm"))
local macro_rules | `(tactic| walk_at "drop") => `(tactic| (apply q_drop; walk_at "ev"))
local macro_rules | `(tactic| walk_at "tup") => `(tactic| (apply q_tupU; walk_at "ev"; walk_at "gs"; rfl; walk_at "nrm"))
local macro_rules | `(tactic| walk_at "ret") => `(tactic| (apply st_ret; walk_at "ev"))
local macro_rules | `(tactic| walk_at "bf") => `(tactic| focus (first | rfl | (simp; done) | (simp; omega) | (simp [*]; done) | (simp [*]; omega)))
local macro_rules | `(tactic| walk_at "no") => `(tactic| (apply q_no; walk_at "et"; walk_at "bf"))
local macro_rules | `(tactic| walk_at "chk") => `(tactic| (apply st_chk; walk_at "et"; walk_at "bf"; rfl))
local macro_rules | `(tactic| walk_at "unl") => `(tactic| (apply q_lstU; walk_at "ev"; walk_at "gs"; rfl; walk_at "nrm"))
local macro_rules | `(tactic| walk_at "R") => `(tactic| exact r_is_integer)
local macro_rules | `(tactic| walk_at "R") => `(tactic| exact r_is_between)
local macro_rules | `(tactic| walk_at "R") => `(tactic| exact r_is_day)
local macro_rules | `(tactic| walk_at "R") => `(tactic| exact r_check_year (by walk_at "side"))
local macro_rules | `(tactic| walk_at "R") => `(tactic| exact r_check_number (by walk_at "side"))
local macro_rules | `(tactic| walk_at "R") => `(tactic| exact r_check_life (by walk_at "side"))
local macro_rules | `(tactic| walk_at "R") => `(tactic| exact r_are_plants_of (by walk_at "side") (by walk_at "side"))
local macro_rules | `(tactic| walk_at "R") => `(tactic| exact r_check_plants (by walk_at "side") (by walk_at "side"))
local macro_rules | `(tactic| walk_at "R") => `(tactic| exact r_bearing_by (by walk_at "side") (by walk_at "side"))
local macro_rules | `(tactic| walk_at "R") => `(tactic| exact r_bearing (by walk_at "side") (by walk_at "side") (by walk_at "side"))
local macro_rules | `(tactic| walk_at "R") => `(tactic| exact r_bearings_of (by walk_at "side") (by walk_at "side"))
local macro_rules | `(tactic| walk_at "R") => `(tactic| exact r_least_bearing (by walk_at "side") (by walk_at "side"))
local macro_rules | `(tactic| walk_at "R") => `(tactic| exact r_most_bearing (by walk_at "side") (by walk_at "side"))
local macro_rules | `(tactic| walk_at "R") => `(tactic| exact r_even_plants (by walk_at "side") (by walk_at "side"))
local macro_rules | `(tactic| walk_at "R") => `(tactic| exact r_most_always (by walk_at "side") (by walk_at "side"))
local macro_rules | `(tactic| walk_at "R") => `(tactic| exact r_best_plants (by walk_at "side") (by walk_at "side"))
local macro_rules | `(tactic| walk_at "R") => `(tactic| exact r_common (by walk_at "side") (by walk_at "side"))
local macro_rules | `(tactic| walk_at "R") => `(tactic| exact r_reduced (by walk_at "side") (by walk_at "side"))
local macro_rules | `(tactic| walk_at "R") => `(tactic| exact r_is_name (by walk_at "side"))
local macro_rules | `(tactic| walk_at "R") => `(tactic| exact r_read_integer (by walk_at "side"))
local macro_rules | `(tactic| walk_at "R") => `(tactic| exact r_is_pattern (by walk_at "side"))
local macro_rules | `(tactic| walk_at "R") => `(tactic| exact r_palm_in (by walk_at "side"))
local macro_rules | `(tactic| walk_at "R") => `(tactic| exact r_is_new (by walk_at "side") (by walk_at "side") (by walk_at "side") (by walk_at "side") (by walk_at "side"))
local macro_rules | `(tactic| walk_at "R") => `(tactic| exact r_palm_names)
local macro_rules | `(tactic| walk_at "R") => `(tactic| exact r_years_of (by walk_at "side") (by walk_at "side"))
local macro_rules | `(tactic| walk_at "R") => `(tactic| exact r_dates_of (by walk_at "side") (by walk_at "side"))
local macro_rules | `(tactic| walk_at "R") => `(tactic| exact r_check_grove)
local macro_rules | `(tactic| walk_at "R") => `(tactic| exact r_check_palm (by walk_at "side") (by walk_at "side"))
local macro_rules | `(tactic| walk_at "R") => `(tactic| exact r_bears_in (by walk_at "side") (by walk_at "side"))
local macro_rules | `(tactic| walk_at "R") => `(tactic| exact r_bears (by walk_at "side") (by walk_at "side") (by walk_at "side"))
local macro_rules | `(tactic| walk_at "R") => `(tactic| exact r_baskets_in (by walk_at "side"))
local macro_rules | `(tactic| walk_at "R") => `(tactic| exact r_baskets (by walk_at "side") (by walk_at "side"))
local macro_rules | `(tactic| walk_at "R") => `(tactic| exact r_bits_of (by walk_at "side") (by walk_at "side"))
local macro_rules | `(tactic| walk_at "R") => `(tactic| exact r_years_of_lot (by walk_at "side") (by walk_at "side") (by walk_at "side"))
local macro_rules | `(tactic| walk_at "R") => `(tactic| exact r_is_some_lot (by walk_at "side"))
local macro_rules | `(tactic| walk_at "R") => `(tactic| exact r_years_all (by walk_at "side"))
local macro_rules | `(tactic| walk_at "R") => `(tactic| exact r_sums_of (by walk_at "side"))
local macro_rules | `(tactic| walk_at "R") => `(tactic| exact r_most_baskets (by walk_at "side"))
local macro_rules | `(tactic| walk_at "R") => `(tactic| exact r_least_baskets (by walk_at "side"))
local macro_rules | `(tactic| walk_at "R") => `(tactic| exact r_mean_baskets (by walk_at "side"))
local macro_rules | `(tactic| walk_at "R") => `(tactic| exact r_lengths_of (by walk_at "side"))
local macro_rules | `(tactic| walk_at "R") => `(tactic| exact r_shift_count (by walk_at "side"))
local macro_rules | `(tactic| walk_at "R") => `(tactic| exact r_check_shifts_few (by walk_at "side") (by walk_at "side"))
local macro_rules | `(tactic| walk_at "R") => `(tactic| exact r_all_shifts (by walk_at "side") (by walk_at "side"))
local macro_rules | `(tactic| walk_at "R") => `(tactic| exact r_rows_shifted (by walk_at "side"))
local macro_rules | `(tactic| walk_at "R") => `(tactic| exact r_sums_by (by walk_at "side") (by walk_at "side"))
local macro_rules | `(tactic| walk_at "R") => `(tactic| exact r_told_evenest (by walk_at "side") (by walk_at "side"))
local macro_rules | `(tactic| walk_at "R") => `(tactic| exact r_evenest (by walk_at "side") (by walk_at "side"))
local macro_rules | `(tactic| walk_at "R") => `(tactic| exact r_cells)
/-! the rows, counted plant by plant -/
def rowsP (y l : Int) (ps : List Int) (p k : Int) : List Int := (List.range l.toNat).map fun t => bearB y l ps ((t : Nat) : Int) + b2i (decide (y ≤ (((t : Nat) : Int) - p) % l) && decide ((((t : Nat) : Int) - p) % l < y + k))
theorem bearB_snoc {y l : Int} {ps : List Int} {p t : Int} : bearB y l (ps ++ [p]) t = bearB y l ps t + b2i (decide (y ≤ (t - p) % l)) := by
  unfold bearB b2i
  rw [List.filter_append, List.length_append, List.filter_cons, List.filter_nil]
  split <;> simp
theorem rowsP_0 {y l : Int} {ps : List Int} {p : Int} : rowsP y l ps p 0 = rowsB y l ps := by
  unfold rowsP rowsB
  apply List.map_congr_left
  intro t _
  have : (decide (y ≤ (((t : Nat) : Int) - p) % l) && decide ((((t : Nat) : Int) - p) % l < y + 0)) = false := by
    rw [Bool.and_eq_false_iff]
    by_cases h : y ≤ (((t : Nat) : Int) - p) % l
    · right; simp; omega
    · left; simpa using h
  rw [this]; simp [b2i]
theorem rowsP_l {y l : Int} {ps : List Int} {p : Int} (hl : 0 < l) : rowsP y l ps p (l - y) = rowsB y l (ps ++ [p]) := by
  unfold rowsP rowsB
  apply List.map_congr_left
  intro t _
  rw [bearB_snoc]
  have := Int.emod_lt_of_pos (((t : Nat) : Int) - p) hl
  rw [show decide ((((t : Nat) : Int) - p) % l < y + (l - y)) = true by simp; omega, Bool.and_true]
theorem age_iff {p a l t : Int} (hl : 0 < l) (ha : 0 ≤ a ∧ a < l) (ht : 0 ≤ t ∧ t < l) : (t - p) % l = a ↔ t = (p + a) % l := by
  constructor
  · intro h
    have e1 : (p + a) % l = (p + (t - p)) % l := by rw [← h, Int.add_emod, Int.emod_emod, ← Int.add_emod]
    rw [e1, show p + (t - p) = t by omega, Int.emod_eq_of_lt ht.1 ht.2]
  · intro h
    have e1 : (t - p) % l = ((p + a) - p) % l := by rw [h, Int.sub_emod, Int.emod_emod, ← Int.sub_emod]
    rw [e1, show p + a - p = a by omega, Int.emod_eq_of_lt ha.1 ha.2]
theorem rowsP_set {y l : Int} {ps : List Int} {p : Int} {k : Nat} (h : Life y l) (hk : (k : Int) < l - y) {j : Nat} (hj : (j : Int) = (p + (y + (k : Nat))) % l) :
    (rowsP y l ps p (k : Nat)).set j (bearB y l ps (j : Nat) + 1) = rowsP y l ps p ((k + 1 : Nat) : Int) ∧ (rowsP y l ps p (k : Nat))[j]? = some (bearB y l ps (j : Nat)) := by
  obtain ⟨h1, h2, h3⟩ := h
  have hl : 0 < l := by omega
  have j1 := Int.emod_nonneg (p + (y + (k : Nat))) (Int.ne_of_gt hl)
  have j2 := Int.emod_lt_of_pos (p + (y + (k : Nat))) hl
  have hjl : j < l.toNat := by omega
  have hx : ((j : Int) - p) % l = y + (k : Nat) := (age_iff hl ⟨by omega, by omega⟩ ⟨by omega, by omega⟩).mpr hj
  have len : (rowsP y l ps p (k : Nat)).length = l.toNat := by simp [rowsP]
  constructor
  · apply List.ext_getElem?
    intro t
    by_cases ht : j = t
    · subst ht
      rw [List.getElem?_set_self (by omega), rowsP, List.getElem?_map, List.getElem?_range hjl]
      simp only [Option.map_some]
      rw [hx, show (decide (y ≤ y + (k : Nat)) && decide (y + ((k : Nat) : Int) < y + ((k + 1 : Nat) : Int))) = true by simp; omega]
      rfl
    · rw [List.getElem?_set_ne ht, rowsP, rowsP, List.getElem?_map, List.getElem?_map]
      rcases Nat.lt_or_ge t l.toNat with z | z
      · rw [List.getElem?_range z]
        simp only [Option.map_some]
        have hne : ((t : Int) - p) % l ≠ y + (k : Nat) := fun e => ht (by
          have := (age_iff (p := p) hl ⟨by omega, by omega⟩ ⟨by omega, by omega⟩).mp e
          omega)
        have : decide (((t : Int) - p) % l < y + ((k : Nat) : Int)) = decide (((t : Int) - p) % l < y + ((k + 1 : Nat) : Int)) := by
          rw [decide_eq_decide]; omega
        rw [this]
      · rw [List.getElem?_eq_none (by simpa using z)]; rfl
  · rw [rowsP, List.getElem?_map, List.getElem?_range hjl]
    simp only [Option.map_some]
    rw [hx, show (decide (y ≤ y + (k : Nat)) && decide (y + ((k : Nat) : Int) < y + ((k : Nat) : Int))) = false by simp]
    simp [b2i]
def R_rows (ds : List D) (d : D) : Prop := ∃ (y l : Int) (ps : List Int), Life y l ∧ ps.length ≤ 60 ∧ ds = [.tup [.int y, .int l], .tup (ps.map .int)] ∧ d = .lst ((rowsB y l ps).map .int)
theorem r_rows {y l : Int} {ps : List Int} (h : Life y l) (h2 : ps.length ≤ 60) : R_rows [.tup [.int y, .int l], .tup (ps.map .int)] (.lst ((rowsB y l ps).map .int)) := ⟨y, l, ps, h, h2, rfl, rfl⟩
theorem p_rows : ∀ ds d, R_rows ds d → St K (t__law_rows K) (ds.map Slot.val ++ List.replicate (N__law_rows.length - ds.length) .no) (Ret d) := by
  rintro _ _ ⟨y, l, ps, h, hps, rfl, rfl⟩
  have hh := h
  obtain ⟨h1, h2, h3⟩ := h
  have hl : 0 < l := by omega
  show St K _ [.val (.tup [.int y, .int l]), .val (.tup (ps.map .int)), .no, .no, .no, .no, .no] _
  refine q_asgN (ds := (rowsB y l []).map .int) (env1 := [.val (.tup [.int y, .int l]), .val (.tup (ps.map .int)), .no, .no, .no, .no, .no]) ?_ fun p => ?_
  · have e : rowsB y l [] = (List.range l.toNat).map fun _ => (0 : Int) := by
      unfold rowsB
      apply List.map_congr_left
      intro t _
      rfl
    rw [e]
    apply en_lc1I (List.range l.toNat) (fun t => D.int (t : Nat)) (fun _ => (0 : Int))
    · walk_at "it"
    · rfl
    · trivial
    · simp; omega
    · intro t ht
      apply ex2
      walk_at "gd"
      walk_at "ev"
  refine Dl.q (st_for (vs := List.range 40) (env1 := [.val (.tup [.int y, .int l]), .val (.tup (ps.map .int)), .own p (.lst ((rowsB y l []).map .int)), .no, .no, .no, .no]) (ds := ps.map .int) (Wp := fun _ => True) (by walk_at "it")
    (fun i e => ∃ a b c d, e = [.val (.tup [.int y, .int l]), .val (.tup (ps.map .int)), .own p (.lst ((rowsB y l (ps.take i)).map .int)), a, b, c, d]) ⟨.no, .no, .no, .no, rfl⟩ (fun _ _ _ _ => trivial) ?_ ?_)
  · rintro i d _ hd ⟨a, b, c, dd, rfl⟩
    rw [List.getElem?_map] at hd
    obtain ⟨x, hx, rfl⟩ := Option.map_eq_some_iff.mp hd
    refine ⟨[.val (.tup [.int y, .int l]), .val (.tup (ps.map .int)), .own p (.lst ((rowsB y l (ps.take i)).map .int)), .val (.int x), b, c, dd], gd_name (by decide), ?_⟩
    refine st_for (vs := List.range 40) (env1 := [.val (.tup [.int y, .int l]), .val (.tup (ps.map .int)), .own p (.lst ((rowsB y l (ps.take i)).map .int)), .val (.int x), b, c, dd]) (ds := (List.range (l - y).toNat).map fun i => D.int (y + (i : Nat))) (Wp := fun _ => True) (by walk_at "it")
      (fun k e => ∃ b c, e = [.val (.tup [.int y, .int l]), .val (.tup (ps.map .int)), .own p (.lst ((rowsP y l (ps.take i) x (k : Nat)).map .int)), .val (.int x), b, c, dd]) ⟨b, c, by rw [show ((0 : Nat) : Int) = 0 by rfl, rowsP_0]⟩ (fun _ _ _ _ => trivial) ?_ ?_
    · rintro k d _ hd ⟨b, c, rfl⟩
      have hk : k < (l - y).toNat := by
        have := (List.getElem?_eq_some_iff.mp hd).1
        simpa using this
      rw [List.getElem?_map, List.getElem?_range hk] at hd
      cases hd
      refine ⟨[.val (.tup [.int y, .int l]), .val (.tup (ps.map .int)), .own p (.lst ((rowsP y l (ps.take i) x (k : Nat)).map .int)), .val (.int x), .val (.int (y + (k : Nat))), c, dd], gd_name (by decide), ?_⟩
      have j1 := Int.emod_nonneg (x + (y + (k : Nat))) (Int.ne_of_gt hl)
      have j2 := Int.emod_lt_of_pos (x + (y + (k : Nat))) hl
      obtain ⟨j, hj⟩ := Int.eq_ofNat_of_zero_le j1
      obtain ⟨s1, s2⟩ := rowsP_set (ps := ps.take i) (p := x) (k := k) hh (by omega) hj.symm
      refine q_asg (d := .int (j : Nat)) (env1 := [.val (.tup [.int y, .int l]), .val (.tup (ps.map .int)), .own p (.lst ((rowsP y l (ps.take i) x (k : Nat)).map .int)), .val (.int x), .val (.int (y + (k : Nat))), c, dd]) (ev_is (d := .int ((x + (y + (k : Nat))) % l)) (by walk_at "ev") (by rw [hj])) ?_
      refine st_setU (j := j) (d := .int (bearB y l (ps.take i) (j : Nat) + 1)) (env1 := [.val (.tup [.int y, .int l]), .val (.tup (ps.map .int)), .own p (.lst ((rowsP y l (ps.take i) x (k : Nat)).map .int)), .val (.int x), .val (.int (y + (k : Nat))), .val (.int (j : Nat)), dd]) (env2 := [.val (.tup [.int y, .int l]), .val (.tup (ps.map .int)), .own p (.lst ((rowsP y l (ps.take i) x (k : Nat)).map .int)), .val (.int x), .val (.int (y + (k : Nat))), .val (.int (j : Nat)), dd])
        (ev_op (a := .int (bearB y l (ps.take i) (j : Nat))) (ev_ixW (j := j) rfl (ev_var rfl) rfl (by rw [List.getElem?_map, s2]; rfl)) (by walk_at "ev") d_add) (ev_var rfl) rfl rfl (by rw [List.length_map]; simp only [rowsP, List.length_map, List.length_range]; omega) ⟨.val (.int (y + (k : Nat))), .val (.int (j : Nat)), ?_⟩
      show _ = _
      rw [← s1, List.map_set]
      rfl
    · rintro _ ⟨b, c, rfl⟩
      refine ⟨.val (.int x), b, c, dd, ?_⟩
      have hlen : ((List.range (l - y).toNat).map fun i => D.int (y + (i : Nat))).length = (l - y).toNat := by simp
      rw [hlen, show (((l - y).toNat : Nat) : Int) = l - y by omega, rowsP_l hl, take_snoc hx]
  · rintro _ ⟨a, b, c, d, rfl⟩
    rw [List.length_map, List.take_length]
    show St K _ _ _
    refine st_ret (ev_give rfl) rfl
local macro_rules | `(tactic| walk_at "R") => `(tactic| exact r_rows (by walk_at "side") (by walk_at "side"))
end K83

set_option Elab.async false
set_option linter.all false
set_option maxRecDepth 100000
set_option maxHeartbeats 4000000
set_option autoImplicit false
namespace K83
open PySem L2 Dl StX
open Evl (Ex fresh_back ex_rd)
variable {K : PySem.W.Frag}
/-! the grove of a life, told -/
def nmP (i : Nat) : Str := ("p" : Str) ++ Str.ofString (toString ((i : Nat) : Int))
theorem nmP_tl {i : Nat} (h : i < 10) : TL.tl (nmP i) = [112, 48 + i] := by
  rw [nmP, TL.tl_append, TL.tl_num, TL.numL_lt h]; rfl
theorem len_tl' (x : Str) : x.length = (TL.tl x).length := by simp [Str.length, TL.tl]
theorem nmP_ok {i : Nat} (h : i < 10) : NmOk (nmP i) := by
  have e := nmP_tl h
  refine ⟨by rw [len_tl', e]; exact Nat.le_of_ble_eq_true rfl, ⟨112, ?_, by decide⟩, ?_⟩
  · show atI (TL.tl (nmP i)) 0 = _
    rw [e]; rfl
  · show ∀ c ∈ TL.tl (nmP i), _
    rw [e]
    have h2 : ∀ i < 10, (48 + i) ∈ ("0123456789" : Str).cps.toList := by decide
    intro c hc
    simp at hc
    rcases hc with rfl | rfl
    · exact .inl (by decide)
    · exact .inr (h2 i h)
theorem nmP_inj {i j : Nat} (h : i < 10) (h2 : j < 10) (e : nmP i = nmP j) : i = j := by
  have := congrArg TL.tl e
  rw [nmP_tl h, nmP_tl h2] at this
  simpa using this
theorem joinL_nil : ∀ xs : List (List Nat), TL.joinL [] xs = xs.flatten
  | [] => rfl
  | [p] => by simp [TL.joinL]
  | p :: q :: r => by
    have := joinL_nil (q :: r)
    simp [TL.joinL] at this ⊢
    rw [this]
def sgL (y l p : Int) : List Nat := (List.range l.toNat).map fun t => if decide (y ≤ (((t : Nat) : Int) - p) % l) then 49 else 48
def sgW (y l p : Int) : List Str := (List.range l.toNat).map fun t => if decide (y ≤ (((t : Nat) : Int) - p) % l) then ("1" : Str) else ("0" : Str)
def sgP (y l p : Int) : Str := Txt.join "" (sgW y l p)
theorem flat_map1 {α : Type} (f : α → Nat) : ∀ l : List α, (l.map fun a => [f a]).flatten = l.map f
  | [] => rfl
  | a :: l => by simp [flat_map1 f l]
theorem sgP_tl (y l p : Int) : TL.tl (sgP y l p) = sgL y l p := by
  rw [sgP, TL.join_eq, TL.tl_join, show TL.tl ("" : Str) = [] from rfl, joinL_nil, sgW, List.map_map, sgL, ← flat_map1]
  congr 1
  apply List.map_congr_left
  intro t _
  show TL.tl (if _ then _ else _) = _
  split <;> rfl
theorem sgP_len {y l p : Int} (hl : 0 < l) : ((sgP y l p).length : Int) = l := by
  rw [len_tl', sgP_tl]; simp [sgL]; omega
theorem sgP_at {y l p t : Int} (h : Life y l) : bit (sgP y l p) t = decide (y ≤ (t - p) % l) := by
  obtain ⟨h1, h2, h3⟩ := h
  have hl : 0 < l := by omega
  have e : (sgP y l p).cps.toList = sgL y l p := sgP_tl y l p
  have m1 := Int.emod_nonneg t (Int.ne_of_gt hl)
  have m2 := Int.emod_lt_of_pos t hl
  unfold bit
  rw [sgP_len hl, e, List.getD_eq_getElem?_getD, sgL, List.getElem?_map, List.getElem?_range (by omega)]
  simp only [Option.map_some, Option.getD_some]
  have e1 : ((t % l).toNat : Int) = t % l := by omega
  have e2 : (t % l - p) % l = (t - p) % l := by rw [Int.sub_emod, Int.emod_emod, ← Int.sub_emod]
  simp only [e1, e2]
  by_cases hh : y ≤ (t - p) % l
  · simp [hh]
  · simp [hh]
theorem sgP_ok {y l p : Int} (h : Life y l) (hl6 : l ≤ 6) : PatOk (sgP y l p) := by
  have hh := h
  obtain ⟨h1, h2, h3⟩ := h
  have hl : 0 < l := by omega
  have e : (sgP y l p).cps.toList = sgL y l p := sgP_tl y l p
  have hlen := sgP_len (y := y) (p := p) hl
  refine ⟨by omega, by omega, ?_, ?_⟩
  · rw [e]
    intro c hc
    obtain ⟨t, _, rfl⟩ := List.mem_map.mp hc
    split <;> decide
  · rw [e]
    have j1 := Int.emod_nonneg (p + (l - 1)) (Int.ne_of_gt hl)
    have j2 := Int.emod_lt_of_pos (p + (l - 1)) hl
    refine List.mem_map.mpr ⟨((p + (l - 1)) % l).toNat, by simp; omega, ?_⟩
    rw [show (((p + (l - 1)) % l).toNat : Int) = (p + (l - 1)) % l by omega]
    rw [show ((p + (l - 1)) % l - p) % l = l - 1 from (age_iff hl ⟨by omega, by omega⟩ ⟨j1, j2⟩).mpr rfl]
    rw [if_pos (by simp; omega)]
def lineP (i : Nat) (w : Str) : Str := ("palm p" : Str) ++ Str.ofString (toString ((i : Nat) : Int)) ++ (" 9 0 5 " : Str) ++ w ++ (" 1" : Str)
theorem line_eq (i : Nat) (w : Str) : lineP i w = Txt.join " " [("palm" : Str), nmP i, ("9" : Str), ("0" : Str), ("5" : Str), w, ("1" : Str)] := by
  apply TL.ext_tl
  rw [TL.join_eq, TL.tl_join]
  simp only [lineP, nmP, TL.tl_append, List.map_cons, List.map_nil, TL.joinL]
  generalize TL.tl (Str.ofString (toString ((i : Nat) : Int))) = z
  generalize TL.tl w = u
  show _ = _
  simp [TL.tl_ofString]
theorem line_split {i : Nat} (h : i < 10) {w : Str} (hw : ∀ c ∈ TL.tl w, c = 48 ∨ c = 49) : Txt.split (lineP i w) " " = [("palm" : Str), nmP i, ("9" : Str), ("0" : Str), ("5" : Str), w, ("1" : Str)] := by
  rw [line_eq]
  refine TL.split_join (s := 32) (S := []) rfl (by decide +kernel) (by simp) fun p hp => ?_
  simp only [List.mem_cons, List.not_mem_nil, or_false] at hp
  rcases hp with rfl | rfl | rfl | rfl | rfl | rfl | rfl
  · decide
  · rw [nmP_tl h]; simp; omega
  · decide
  · decide
  · decide
  · intro hc; have := hw _ hc; omega
  · decide
theorem sgL_01 {y l p : Int} : ∀ c ∈ TL.tl (sgP y l p), c = 48 ∨ c = 49 := by
  rw [sgP_tl]
  intro c hc
  obtain ⟨t, _, rfl⟩ := List.mem_map.mp hc
  split
  · exact .inr rfl
  · exact .inl rfl
def linesP (y l : Int) (ps : List Int) : List Str := ps.zipIdx.map fun a => lineP a.2 (sgP y l a.1)
def textP (y l : Int) (ps : List Int) : Str := Txt.join "\n" (("grove 1 1" : Str) :: linesP y l ps)
def pmP (y l : Int) (a : Int × Nat) : Pm := ⟨nmP a.2, 9, 0, 5, sgP y l a.1, 1⟩
def gOf (y l : Int) (ps : List Int) : Gv := ⟨textP y l ps, some (1, 1), ps.zipIdx.map (pmP y l), [], []⟩
theorem line_nl {i : Nat} (h : i < 10) {y l p : Int} : (10 : Nat) ∉ TL.tl (lineP i (sgP y l p)) := by
  have hs := sgL_01 (y := y) (l := l) (p := p)
  simp only [lineP, TL.tl_append, TL.tl_num, TL.numL_lt h, List.mem_append, not_or]
  refine ⟨⟨⟨⟨by decide, by simp; omega⟩, by decide⟩, fun hc => ?_⟩, by decide⟩
  have := hs _ hc; omega
theorem text_split {y l : Int} {ps : List Int} (h : ps.length ≤ 6) : Txt.split (textP y l ps) "\n" = ("grove 1 1" : Str) :: linesP y l ps := by
  refine TL.split_join (s := 10) (S := []) rfl (by decide +kernel) (by simp) fun p hp => ?_
  rcases List.mem_cons.mp hp with rfl | hp
  · decide
  · obtain ⟨⟨q, i⟩, hq, rfl⟩ := List.mem_map.mp hp
    have hi := (List.mem_zipIdx hq).2.1
    exact line_nl (by simp at hi; omega)
theorem line_len {i : Nat} (h : i < 10) {y l p : Int} (hl : 0 < l) : ((lineP i (sgP y l p)).length : Int) = 16 + l := by
  have := sgP_len (y := y) (p := p) hl
  rw [len_tl'] at this ⊢
  simp only [lineP, TL.tl_append, TL.tl_num, TL.numL_lt h, List.length_append]
  rw [show (TL.tl ("palm p" : Str)).length = 6 by decide, show (TL.tl (" 9 0 5 " : Str)).length = 7 by decide, show (TL.tl (" 1" : Str)).length = 2 by decide]
  simp only [List.length_cons, List.length_nil]
  omega
theorem joinL_len {s : Nat} {m : Nat} : ∀ {xs : List (List Nat)}, (∀ x ∈ xs, x.length ≤ m) → (TL.joinL [s] xs).length ≤ (m + 1) * xs.length
  | [], _ => by simp [TL.joinL]
  | [p], h => by simp [TL.joinL]; have := h p (by simp); omega
  | p :: q :: r, h => by
    have ih := joinL_len (s := s) (xs := q :: r) fun x hx => h x (List.mem_cons_of_mem _ hx)
    have h1 := h p (by simp)
    simp only [TL.joinL, List.length_append, List.length_cons] at ih ⊢
    simp only [List.length_nil] at ih ⊢
    rw [Nat.mul_add] 
    have : (m + 1) * (r.length + 1) = (m + 1) * (r.length + 1) := rfl
    omega
def rdI9 : RdI ("9" : Str) 9 := ⟨by decide, by decide, by decide +kernel, by decide, by decide +kernel, by decide +kernel, by decide +kernel⟩
def rdI0 : RdI ("0" : Str) 0 := ⟨by decide, by decide, by decide +kernel, by decide, by decide +kernel, by decide +kernel, by decide +kernel⟩
def rdI5 : RdI ("5" : Str) 5 := ⟨by decide, by decide, by decide +kernel, by decide, by decide +kernel, by decide +kernel, by decide +kernel⟩
def rdI1 : RdI ("1" : Str) 1 := ⟨by decide, by decide, by decide +kernel, by decide, by decide +kernel, by decide +kernel, by decide +kernel⟩
theorem ps_take_no {y l : Int} {ps : List Int} (h : ps.length ≤ 6) : ∀ (n : Nat) (i : Nat), n ≤ i → i < 10 → dlk (((ps.zipIdx.map (pmP y l)).take n).map fun q => Sum.inr q.nm) (((ps.zipIdx.map (pmP y l)).take n).map Pm.d) (Sum.inr (nmP i)) = none := by
  intro n i hn hi
  have gen : ∀ (qs : List Pm), (∀ q ∈ qs, q.nm ≠ nmP i) → dlk (qs.map fun q => Sum.inr q.nm) (qs.map Pm.d) (Sum.inr (nmP i)) = none := by
    intro qs
    induction qs with
    | nil => intro _; rfl
    | cons q qs ih =>
      intro hq
      have := hq q List.mem_cons_self
      simp [dlk, this]
      exact ih fun x hx => hq x (List.mem_cons_of_mem _ hx)
  refine gen _ fun q hq e => ?_
  obtain ⟨j, hj, rfl⟩ := List.getElem_of_mem hq
  rw [List.length_take, List.length_map, List.length_zipIdx] at hj
  rw [List.getElem_take, List.getElem_map, List.getElem_zipIdx] at e
  have := nmP_inj (i := 0 + j) (j := i) (by omega) hi e
  omega
theorem told {y l : Int} {ps : List Int} (h : Life y l) (h6 : l ≤ 6) (hp : ps.length ≤ 6) (hne : ps ≠ []) : Told (gOf y l ps).text (gOf y l ps).s := by
  have hl := h.pos
  have hs := text_split (y := y) (l := l) hp
  have hll : (linesP y l ps).length = ps.length := by simp [linesP]
  have each : ∀ x ∈ ("grove 1 1" : Str) :: linesP y l ps, x.length ≤ 22 := fun x hx => by
    rcases List.mem_cons.mp hx with rfl | hx
    · decide
    · obtain ⟨⟨q, i⟩, hq, rfl⟩ := List.mem_map.mp hx
      have hi := (List.mem_zipIdx hq).2.1
      have := line_len (i := i) (by simp at hi; omega) (y := y) (p := q) hl
      show (lineP i (sgP y l q)).length ≤ 22
      omega
  refine ⟨?_, ?_, ?_, ?_, ?_⟩
  · show (textP y l ps).length ≤ 90000
    rw [len_tl', textP, TL.join_eq, TL.tl_join]
    have := joinL_len (s := 10) (m := 22) (xs := (("grove 1 1" : Str) :: linesP y l ps).map TL.tl) fun x hx => by
      obtain ⟨z, hz, rfl⟩ := List.mem_map.mp hx
      rw [← len_tl']; exact each z hz
    rw [List.length_map, List.length_cons, hll] at this
    show (TL.joinL [10] _).length ≤ _
    omega
  · show (Txt.split (textP y l ps) "\n").length ≤ 1000
    rw [hs, List.length_cons, hll]; omega
  · show ∀ x ∈ Txt.split (textP y l ps) "\n", _
    rw [hs]
    intro x hx
    have := each x hx
    omega
  · show ∃ st : Nat → RSt, st 0 = _ ∧ st (Txt.split (textP y l ps) "\n").length = _ ∧ ∀ i x, (Txt.split (textP y l ps) "\n")[i]? = some x → _
    rw [hs]
    refine ⟨fun n => match n with
      | 0 => ⟨none, [], [], [], []⟩
      | n + 1 => ⟨some (1, 1), ((ps.zipIdx.map (pmP y l)).take n).map fun q => Sum.inr q.nm, ((ps.zipIdx.map (pmP y l)).take n).map Pm.d, [], []⟩, rfl, ?_, ?_⟩
    · rw [List.length_cons, hll]
      show RSt.mk _ _ _ _ _ = RSt.mk _ _ _ _ _
      rw [List.take_of_length_le (by simp)]
      rfl
    · intro i x hx
      cases i with
      | zero =>
        have hx : x = "grove 1 1" := by simpa using hx.symm
        subst hx
        exact .head (w1 := "1") (w2 := "1") (a := 1) (b := 1) (by decide +kernel) rdI1 rdI1 (by omega) (by omega) rfl
      | succ i =>
        rw [List.getElem?_cons_succ, linesP, List.getElem?_map] at hx
        obtain ⟨⟨q, j⟩, hq, rfl⟩ := Option.map_eq_some_iff.mp hx
        have hj : i < ps.length := by
          have := (List.getElem?_eq_some_iff.mp hq).1
          simpa using this
        have hqq : (ps.zipIdx)[i]? = some (ps[i], i) := by rw [List.getElem?_zipIdx, List.getElem?_eq_getElem hj]; simp
        rw [hqq] at hq
        cases hq
        have hlt : ((ps.zipIdx.map (pmP y l)).take i).length = i := by simp; omega
        have hps : (ps.zipIdx.map (pmP y l))[i]? = some (pmP y l (ps[i], i)) := by rw [List.getElem?_map, hqq]; rfl
        have key := Takes.palm (s := ⟨some (1, 1), ((ps.zipIdx.map (pmP y l)).take i).map fun q => Sum.inr q.nm, ((ps.zipIdx.map (pmP y l)).take i).map Pm.d, [], []⟩) (line := lineP i (sgP y l ps[i]))
          (nm := nmP i) (e := 9) (o := 0) (t := 5) (p := sgP y l ps[i]) (n := 1) (line_split (by omega) sgL_01)
          ⟨⟨_, _, _, _, rfl, rdI9, rdI0, rdI5, rdI1⟩, by omega, by omega, by omega, by omega, sgP_ok h h6, by omega⟩ ⟨_, rfl⟩ (nmP_ok (by omega)) (ps_take_no hp i i (Nat.le_refl _) (by omega)) rfl (by rw [List.length_map, hlt]; omega)
        show Takes _ _ ⟨some (1, 1), ((ps.zipIdx.map (pmP y l)).take (i + 1)).map fun q => Sum.inr q.nm, ((ps.zipIdx.map (pmP y l)).take (i + 1)).map Pm.d, [], []⟩
        rw [take_snoc hps, List.map_append, List.map_append]
        exact key
  · show (List.map _ _) ≠ []
    exact fun e => hne (by simpa [gOf] using e)
theorem gOf_ok {y l : Int} {ps : List Int} (h : Life y l) (h6 : l ≤ 6) (hp : ps.length ≤ 6) : GvOk (gOf y l ps) := by
  have mem : ∀ q ∈ (gOf y l ps).ps, ∃ a : Int × Nat, a.2 < 6 ∧ q = pmP y l a := fun q hq => by
    obtain ⟨a, ha, rfl⟩ := List.mem_map.mp hq
    have := (List.mem_zipIdx ha).2.1
    exact ⟨a, by simp at this; omega, rfl⟩
  refine ⟨?_, by simp [gOf]; omega, fun q hq => ?_, fun q hq => ?_⟩
  · rw [List.Nodup, List.pairwise_iff_getElem]
    intro i j hi hj hij e
    have lj : j < ps.length := by simpa [gOf] using hj
    have e := congrArg some e
    rw [← List.getElem?_eq_getElem, ← List.getElem?_eq_getElem] at e
    have at_ : ∀ k, k < ps.length → ((gOf y l ps).ps.map Pm.nm)[k]? = some (nmP k) := fun k hk => by
      simp only [gOf, List.getElem?_map, List.getElem?_zipIdx, List.getElem?_eq_getElem hk]
      simp [pmP]
    rw [at_ i (by omega), at_ j lj] at e
    have := nmP_inj (by omega) (by omega) (Option.some.inj e)
    omega
  · obtain ⟨a, ha, rfl⟩ := mem q hq
    exact nmP_ok (by omega)
  · obtain ⟨a, ha, rfl⟩ := mem q hq
    exact ⟨sgP_ok h h6, show (0 : Int) ≤ 1 by decide, show (1 : Int) ≤ 99 by decide⟩
end K83

set_option Elab.async false
set_option linter.all false
set_option maxRecDepth 100000
set_option maxHeartbeats 4000000
set_option autoImplicit false
namespace K83
open PySem L2 Dl StX
open Evl (Ex fresh_back ex_rd)
/-! the plain law -/
theorem bearB_sum (y l t : Int) : ∀ ps : List Int, bearB y l ps t = (ps.map fun p => b2i (decide (y ≤ (t - p) % l))).sum
  | [] => rfl
  | p :: ps => by
    have ih := bearB_sum y l t ps
    unfold bearB at ih ⊢
    rw [List.map_cons, List.sum_cons, ← ih, List.filter_cons]
    unfold b2i
    split
    · simp; omega
    · simp
theorem bearB_mod {y l t : Int} {ps : List Int} : bearB y l ps (t % l) = bearB y l ps t := by
  rw [bearB_sum, bearB_sum]
  congr 1
  apply List.map_congr_left
  intro p _
  rw [Int.sub_emod (t % l), Int.emod_emod, ← Int.sub_emod]
theorem bearB_bd {y l t : Int} {ps : List Int} : 0 ≤ bearB y l ps t ∧ bearB y l ps t ≤ (ps.length : Nat) := by
  unfold bearB
  have := List.length_filter_le (fun p => decide (y ≤ (t - p) % l)) ps
  omega
theorem bearB_all {y l t : Int} {ps : List Int} : (ps.all fun p => decide (y ≤ (t - p) % l)) = decide (bearB y l ps t = (ps.length : Nat)) := by
  rw [Bool.eq_iff_iff]
  rw [decide_eq_true_eq, List.all_eq_true]
  unfold bearB
  rw [show ((((ps.filter fun p => decide (y ≤ (t - p) % l)).length : Nat) : Int) = (ps.length : Nat)) ↔ (ps.filter fun p => decide (y ≤ (t - p) % l)).length = ps.length by omega]
  rw [List.length_filter_eq_length_iff]
/-- over one round of years each plant bears l - y times -/
theorem round1 {y l : Int} (h : Life y l) (h6 : l ≤ 6) (c : Int) : ((List.range l.toNat).map fun t => b2i (decide (y ≤ (((t : Nat) : Int) - c) % l))).sum = l - y := by
  have key : ∀ l < 7, ∀ y < l, ∀ c < l, ((List.range l).map fun t => b2i (decide ((y : Int) ≤ (((t : Nat) : Int) - (c : Nat)) % (l : Nat)))).sum = (l : Int) - (y : Nat) := by decide +kernel
  obtain ⟨h1, h2, h3⟩ := h
  have hl : 0 < l := by omega
  have m1 := Int.emod_nonneg c (Int.ne_of_gt hl)
  have m2 := Int.emod_lt_of_pos c hl
  have := key l.toNat (by omega) y.toNat (by omega) (c % l).toNat (by omega)
  rw [show ((l.toNat : Nat) : Int) = l by omega, show ((y.toNat : Nat) : Int) = y by omega, show (((c % l).toNat : Nat) : Int) = c % l by omega] at this
  rw [← this]
  congr 1
  apply List.map_congr_left
  intro t _
  rw [Int.sub_emod (t : Int) (c % l), Int.emod_emod, ← Int.sub_emod]
theorem sum_add {α : Type} (f g : α → Int) : ∀ l : List α, (l.map fun a => f a + g a).sum = (l.map f).sum + (l.map g).sum
  | [] => rfl
  | a :: l => by simp only [List.map_cons, List.sum_cons, sum_add f g l]; omega
theorem sum_zero {α : Type} : ∀ l : List α, (l.map fun _ => (0 : Int)).sum = 0
  | [] => rfl
  | a :: l => by simp only [List.map_cons, List.sum_cons, sum_zero l]; rfl
theorem round {y l : Int} (h : Life y l) (h6 : l ≤ 6) : ∀ ps : List Int, ((List.range l.toNat).map fun t => bearB y l ps ((t : Nat) : Int)).sum = (ps.length : Nat) * (l - y)
  | [] => by
    have : (fun t : Nat => bearB y l [] ((t : Nat) : Int)) = fun _ => 0 := by funext t; rfl
    rw [this]
    simp only [List.length_nil]
    rw [sum_zero]; simp
  | p :: ps => by
    have e : (fun t : Nat => bearB y l (p :: ps) ((t : Nat) : Int)) = fun t => b2i (decide (y ≤ (((t : Nat) : Int) - p) % l)) + bearB y l ps ((t : Nat) : Int) := by
      funext t
      rw [bearB_sum, bearB_sum, List.map_cons, List.sum_cons]
    rw [e, sum_add, round1 h h6, round h h6 ps, List.length_cons, Int.natCast_add, Int.add_mul]
    omega
theorem sum_ge {m : Int} : ∀ {l : List Int}, (∀ x ∈ l, m ≤ x) → m * (l.length : Nat) ≤ l.sum
  | [], _ => by simp
  | a :: l, h => by
    have h1 := h a List.mem_cons_self
    have h2 := sum_ge fun x hx => h x (List.mem_cons_of_mem _ hx)
    rw [List.sum_cons, List.length_cons]
    have e : m * ((l.length + 1 : Nat) : Int) = m * (l.length : Nat) + m := by rw [Int.natCast_add, Int.mul_add]; simp
    omega
/-- no round has more in its worst year than the mean -/
theorem worst {y l m : Int} (h : Life y l) (h6 : l ≤ 6) {ps : List Int} (hm : ∀ t : Nat, t < l.toNat → m ≤ bearB y l ps (t : Nat)) : m ≤ (ps.length : Nat) * (l - y) / l := by
  have hl := h.pos
  have h1 : m * (((List.range l.toNat).map fun t => bearB y l ps ((t : Nat) : Int)).length : Nat) ≤ _ := sum_ge fun x hx => by
    obtain ⟨t, ht, rfl⟩ := List.mem_map.mp hx
    exact hm t (by simpa using ht)
  rw [round h h6] at h1
  rw [List.length_map, List.length_range, show ((l.toNat : Nat) : Int) = l by omega] at h1
  exact (Int.le_ediv_iff_mul_le hl).mpr h1
/-- plants evenly spread: every year has the mean, rounded down -/
theorem even_ok {y l : Int} (h : Life y l) (h6 : l ≤ 6) {n : Nat} (hn : n ≤ 5) (t : Int) : (n : Int) * (l - y) / l ≤ bearB y l (evenP l n) t := by
  have key : ∀ l < 7, ∀ y < l, ∀ n < 6, ∀ t < l, ((n : Nat) : Int) * ((l : Nat) - (y : Nat)) / (l : Nat) ≤ bearB (y : Nat) (l : Nat) (evenP (l : Nat) (n : Nat)) (t : Nat) := by decide +kernel
  obtain ⟨h1, h2, h3⟩ := h
  have hl : 0 < l := by omega
  have m1 := Int.emod_nonneg t (Int.ne_of_gt hl)
  have m2 := Int.emod_lt_of_pos t hl
  have := key l.toNat (by omega) y.toNat (by omega) n (by omega) (t % l).toNat (by omega)
  rw [show ((l.toNat : Nat) : Int) = l by omega, show ((y.toNat : Nat) : Int) = y by omega, show (((t % l).toNat : Nat) : Int) = t % l by omega, bearB_mod] at this
  exact this
theorem bearB_congr {y l t : Int} : ∀ {ps qs : List Int}, ps.length = qs.length → (∀ (i : Nat) (p q : Int), ps[i]? = some p → qs[i]? = some q → p % l = q % l) → bearB y l ps t = bearB y l qs t
  | [], [], _, _ => rfl
  | p :: ps, q :: qs, hl, h => by
    have h0 := h 0 p q rfl rfl
    have ih := bearB_congr (y := y) (l := l) (t := t) (ps := ps) (qs := qs) (by simpa using hl) fun i a b ha hb => h (i + 1) a b (by simpa using ha) (by simpa using hb)
    rw [bearB_sum, bearB_sum] at ih ⊢
    rw [List.map_cons, List.map_cons, List.sum_cons, List.sum_cons, ih, Int.sub_emod t p, h0, ← Int.sub_emod]
/-! rounds of years -/
theorem mn_eq {L : List Int} {m : Int} (h1 : m ∈ L) (h2 : ∀ x ∈ L, m ≤ x) : mnL L = m := Int.le_antisymm (mnL_le h1) (h2 _ (mnL_mem (List.ne_nil_of_mem h1)))
theorem mx_eq {L : List Int} {m : Int} (h1 : m ∈ L) (h2 : ∀ x ∈ L, x ≤ m) : mxL L = m := Int.le_antisymm (h2 _ (mxL_mem (List.ne_nil_of_mem h1))) (mxL_ge h1)
/-- f told over 60 years and over l -/
def ov (f : Int → Int) (n : Nat) : List Int := (List.range n).map fun t => f ((t : Nat) : Int)
theorem ov_add {f : Int → Int} (n k : Nat) : ov f (n + k) = ov f n ++ ((List.range k).map fun t => f (((n + t : Nat) : Int))) := by
  unfold ov
  rw [List.range_add, List.map_append, List.map_map]; rfl
structure Per (f : Int → Int) (l : Int) : Prop where
  p : 0 < l
  m : ∀ t, f (t % l) = f t
theorem ov_mem {f : Int → Int} {l : Int} (P : Per f l) {n : Nat} (hn : l.toNat ≤ n) {x : Int} : x ∈ ov f n ↔ x ∈ ov f l.toNat := by
  obtain ⟨hl, hm⟩ := P
  constructor
  · intro h
    obtain ⟨t, ht, rfl⟩ := List.mem_map.mp h
    have m1 := Int.emod_nonneg (t : Int) (Int.ne_of_gt hl)
    have m2 := Int.emod_lt_of_pos (t : Int) hl
    refine List.mem_map.mpr ⟨((t : Int) % l).toNat, by simp; omega, ?_⟩
    rw [show ((((t : Int) % l).toNat : Nat) : Int) = (t : Int) % l by omega, hm]
  · intro h
    obtain ⟨t, ht, rfl⟩ := List.mem_map.mp h
    exact List.mem_map.mpr ⟨t, by simp at ht ⊢; omega, rfl⟩
theorem ov_ne {f : Int → Int} {l : Int} (P : Per f l) : ov f l.toNat ≠ [] := by
  intro e
  have := congrArg List.length e
  have := P.p
  simp [ov] at *
  omega
theorem ov_mn {f : Int → Int} {l : Int} (P : Per f l) {n : Nat} (hn : l.toNat ≤ n) : mnL (ov f n) = mnL (ov f l.toNat) :=
  mn_eq ((ov_mem P hn).mpr (mnL_mem (ov_ne P))) fun x hx => mnL_le ((ov_mem P hn).mp hx)
theorem ov_mx {f : Int → Int} {l : Int} (P : Per f l) {n : Nat} (hn : l.toNat ≤ n) : mxL (ov f n) = mxL (ov f l.toNat) :=
  mx_eq ((ov_mem P hn).mpr (mxL_mem (ov_ne P))) fun x hx => mxL_ge ((ov_mem P hn).mp hx)
theorem ov_ix {f : Int → Int} {l : Int} (P : Per f l) {n : Nat} (hn : l.toNat ≤ n) {x : Int} (hx : x ∈ ov f l.toNat) : (ov f n).idxOf x = (ov f l.toNat).idxOf x := by
  obtain ⟨k, rfl⟩ := Nat.exists_eq_add_of_le hn
  rw [ov_add, List.idxOf_append, if_pos hx]
theorem ov_sum {f : Int → Int} {l : Nat} (P : Per f (l : Nat)) : ∀ k : Nat, (ov f (l * k)).sum = k * (ov f l).sum
  | 0 => by simp [ov]
  | k + 1 => by
    rw [Nat.mul_succ, ov_add, List.sum_append, ov_sum P k]
    have : ((List.range l).map fun t => f (((l * k + t : Nat) : Int))) = ov f l := by
      apply List.map_congr_left
      intro t _
      rw [← P.m ((l * k + t : Nat) : Int), ← P.m ((t : Nat) : Int)]
      congr 1
      rw [Int.natCast_add, Int.natCast_mul, Int.add_emod, Int.mul_emod_right]
      simp
    rw [this, Int.natCast_add, Int.add_mul]
    omega
theorem sixty {l : Int} (h0 : 0 < l) (h6 : l ≤ 6) : ∃ k : Nat, 60 = l.toNat * k := by
  have : l = 1 ∨ l = 2 ∨ l = 3 ∨ l = 4 ∨ l = 5 ∨ l = 6 := by omega
  rcases this with rfl | rfl | rfl | rfl | rfl | rfl
  · exact ⟨60, rfl⟩
  · exact ⟨30, rfl⟩
  · exact ⟨20, rfl⟩
  · exact ⟨15, rfl⟩
  · exact ⟨12, rfl⟩
  · exact ⟨10, rfl⟩
/-! the grove and the plants agree -/
section
variable {y l : Int} {ps : List Int}
theorem perB (h : Life y l) (ps : List Int) : Per (bearB y l ps) l := ⟨h.pos, fun _ => bearB_mod⟩
theorem gOf_ps : (gOf y l ps).ps.length = ps.length := by simp [gOf]
theorem bask_gen (h : Life y l) (t : Int) : ∀ (ps : List Int) (k : Nat), ((((ps.zipIdx k).map (pmP y l)).filter fun q => bit q.p t).map Pm.n).sum = bearB y l ps t
  | [], _ => rfl
  | p :: ps, k => by
    have ih := bask_gen h t ps (k + 1)
    rw [bearB_sum, List.map_cons, List.sum_cons, ← bearB_sum, ← ih, List.zipIdx_cons, List.map_cons, List.filter_cons]
    rw [show bit (pmP y l (p, k)).p t = decide (y ≤ (t - p) % l) from sgP_at h]
    unfold b2i
    split
    · rw [List.map_cons, List.sum_cons]; rfl
    · simp
theorem bask_eq (h : Life y l) (t : Int) : bask (gOf y l ps) t = bearB y l ps t := bask_gen h t ps 0
theorem sums_eq (h : Life y l) : sums (gOf y l ps) = ov (bearB y l ps) 60 := by
  unfold sums ov
  apply List.map_congr_left
  intro t _
  exact bask_eq h _
theorem rows_eq : rowsB y l ps = ov (bearB y l ps) l.toNat := rfl
theorem rows_at (h : Life y l) (t : Int) : atI ((rowsB y l ps).map D.int) (t % l) = some (.int (bearB y l ps t)) := by
  have hl := h.pos
  have m1 := Int.emod_nonneg t (Int.ne_of_gt hl)
  have m2 := Int.emod_lt_of_pos t hl
  obtain ⟨n, hn⟩ := Int.eq_ofNat_of_zero_le m1
  rw [hn]
  refine atI_nat ?_
  rw [rowsB, List.getElem?_map, List.getElem?_map, List.getElem?_range (by omega)]
  simp only [Option.map_some]
  rw [← hn, bearB_mod]
theorem mn_agree (h : Life y l) (h6 : l ≤ 6) : mnL (sums (gOf y l ps)) = mnL (rowsB y l ps) := by rw [sums_eq h, rows_eq, ov_mn (perB h ps) (by omega)]
theorem mx_agree (h : Life y l) (h6 : l ≤ 6) : mxL (sums (gOf y l ps)) = mxL (rowsB y l ps) := by rw [sums_eq h, rows_eq, ov_mx (perB h ps) (by omega)]
theorem mni_agree (h : Life y l) (h6 : l ≤ 6) : (sums (gOf y l ps)).idxOf (mnL (rowsB y l ps)) = (rowsB y l ps).idxOf (mnL (rowsB y l ps)) := by
  rw [sums_eq h, rows_eq]
  exact ov_ix (perB h ps) (by omega) (mnL_mem (ov_ne (perB h ps)))
theorem mxi_agree (h : Life y l) (h6 : l ≤ 6) : (sums (gOf y l ps)).idxOf (mxL (rowsB y l ps)) = (rowsB y l ps).idxOf (mxL (rowsB y l ps)) := by
  rw [sums_eq h, rows_eq]
  exact ov_ix (perB h ps) (by omega) (mxL_mem (ov_ne (perB h ps)))
theorem mean_agree (h : Life y l) (h6 : l ≤ 6) : (sums (gOf y l ps)).sum / (Int.gcd (sums (gOf y l ps)).sum 60 : Nat) * l = 60 / (Int.gcd (sums (gOf y l ps)).sum 60 : Nat) * (rowsB y l ps).sum := by
  have hl := h.pos
  obtain ⟨k, hk⟩ := sixty hl h6
  have P := perB h ps
  have e1 : ((l.toNat : Nat) : Int) = l := by omega
  have e2 : (sums (gOf y l ps)).sum = k * (rowsB y l ps).sum := by
    rw [sums_eq h, rows_eq, hk]
    exact ov_sum (by rw [e1]; exact P) k
  have e3 : (60 : Int) = l * k := by
    have : ((60 : Nat) : Int) = ((l.toNat * k : Nat) : Int) := by rw [← hk]
    rw [Int.natCast_mul, e1] at this
    exact this
  generalize (sums (gOf y l ps)).sum = S at e2
  generalize (rowsB y l ps).sum = R at e2
  have hg : (0 : Int) < (Int.gcd S 60 : Nat) := by
    have : 0 < Int.gcd S 60 := Int.gcd_pos_iff.mpr (.inr (by decide))
    omega
  obtain ⟨a, ha⟩ := Int.gcd_dvd_left S 60
  obtain ⟨b, hb⟩ := Int.gcd_dvd_right S 60
  generalize ((Int.gcd S 60 : Nat) : Int) = g at hg ha hb
  rw [ha, hb, Int.mul_ediv_cancel_left _ (Int.ne_of_gt hg), Int.mul_ediv_cancel_left _ (Int.ne_of_gt hg)]
  have : g * (a * l) = g * (b * R) := by
    rw [← Int.mul_assoc, ← Int.mul_assoc, ← ha, ← hb, e2, e3, Int.mul_comm (k : Int) R, Int.mul_assoc, Int.mul_comm (k : Int) l, Int.mul_comm R]
  exact Int.eq_of_mul_eq_mul_left (Int.ne_of_gt hg) this
theorem years_agree (h : Life y l) : yearsAll (gOf y l ps).ps = (List.range 60).filter fun t => decide (bearB y l ps ((t : Nat) : Int) = (ps.length : Nat)) := by
  unfold yearsAll
  apply List.filter_congr
  intro t _
  rw [← bearB_all]
  have gen : ∀ (ps : List Int) (k : Nat), (((ps.zipIdx k).map (pmP y l)).all fun q => bit q.p ((t : Nat) : Int)) = ps.all fun p => decide (y ≤ (((t : Nat) : Int) - p) % l) := by
    intro ps
    induction ps with
    | nil => intro _; rfl
    | cons p ps ih =>
      intro k
      rw [List.zipIdx_cons, List.map_cons, List.all_cons, List.all_cons, ih (k + 1)]
      rw [show bit (pmP y l (p, k)).p ((t : Nat) : Int) = decide (y ≤ (((t : Nat) : Int) - p) % l) from sgP_at h]
  exact gen ps 0
theorem one_agree (h : Life y l) {p t : Int} : bit (sgP y l p) t = decide (bearB y l [p] t = 1) := by
  rw [sgP_at h]
  have := bearB_all (y := y) (l := l) (t := t) (ps := [p])
  simpa using this
/-- the best of the shifts -/
theorem best_spec {g : Gv} : ∀ (rows : List (List Int)) (n : Nat), n ≤ rows.length → 0 < n → ∃ b, bestOf g (rows.take n) = some b ∧ (∀ sh ∈ rows.take n, mnL (sumsBy g sh) ≤ b.1) ∧ ∃ sh ∈ rows.take n, b.1 = mnL (sumsBy g sh)
  | rows, 0, _, h => absurd h (by decide)
  | rows, n + 1, hn, _ => by
    have hx : rows[n]? = some rows[n] := List.getElem?_eq_getElem (by omega)
    rw [take_snoc hx, bestOf_snoc]
    generalize rows[n] = sh
    rcases Nat.eq_zero_or_pos n with rfl | hp
    · refine ⟨(mnL (sumsBy g sh), sh), rfl, fun s hs => ?_, sh, by simp, rfl⟩
      simp at hs
      rw [hs]; exact Int.le_refl _
    · obtain ⟨b, e, h1, s, hs, h2⟩ := best_spec (g := g) rows n (by omega) hp
      rw [e]
      show ∃ b', (if b.1 < mnL (sumsBy g sh) then some (mnL (sumsBy g sh), sh) else some b) = some b' ∧ _
      by_cases hb : b.1 < mnL (sumsBy g sh)
      · rw [if_pos hb]
        refine ⟨_, rfl, fun s hs => ?_, sh, by simp, rfl⟩
        rcases List.mem_append.mp hs with hs | hs
        · have := h1 s hs
          show _ ≤ mnL (sumsBy g sh)
          omega
        · simp at hs
          rw [hs]; exact Int.le_refl _
      · rw [if_neg hb]
        refine ⟨_, rfl, fun s' hs' => ?_, s, List.mem_append_left _ hs, h2⟩
        rcases List.mem_append.mp hs' with hs' | hs'
        · exact h1 s' hs'
        · simp at hs'
          rw [hs']; omega
/-- every row of shifts stands there -/
theorem shN_mem {ls : List Int} : ∀ (n : Nat) {r : List Int}, n ≤ ls.length → r.length = n → (∀ (i : Nat) (x s : Int), i < n → ls[i]? = some x → r[i]? = some s → 0 ≤ s ∧ s < x) → r ∈ shN (ls.take n)
  | 0, r, _, hl, _ => by
    rw [List.length_eq_zero_iff.mp hl]
    simp [shN]
  | n + 1, r, hn, hl, h => by
    have hx : ls[n]? = some ls[n] := List.getElem?_eq_getElem (by omega)
    have hr : r[n]? = some r[n] := List.getElem?_eq_getElem (by omega)
    rw [take_snoc hx, shN_snoc, List.mem_flatMap]
    refine ⟨r.take n, shN_mem n (by omega) (by rw [List.length_take]; omega) fun i x s hi h1 h2 => h i x s (by omega) h1 (by rwa [List.getElem?_take_of_lt hi] at h2), ?_⟩
    have hb := h n _ _ (by omega) hx hr
    refine List.mem_map.mpr ⟨r[n].toNat, by simp; omega, ?_⟩
    rw [show ((r[n].toNat : Nat) : Int) = r[n] by omega, ← take_snoc hr, List.take_of_length_le (by omega)]
theorem lens_gOf (h : Life y l) : lens (gOf y l ps) = ps.map fun _ => l := by
  unfold lens gOf
  simp only [List.map_map]
  have gen : ∀ (ps : List Int) (k : Nat), (ps.zipIdx k).map ((fun q => ((q.p.length : Nat) : Int)) ∘ pmP y l) = ps.map fun _ => l := by
    intro ps
    induction ps with
    | nil => intro _; rfl
    | cons p ps ih =>
      intro k
      rw [List.zipIdx_cons, List.map_cons, List.map_cons, ih (k + 1)]
      congr 1
      exact sgP_len h.pos
  exact gen ps 0
theorem sumsBy_gOf (h : Life y l) (r : List Int) : sumsBy (gOf y l ps) r = ov (bearB y l (List.zipWith (· - ·) ps r)) 60 := by
  unfold sumsBy ov
  apply List.map_congr_left
  intro t _
  have gen : ∀ (ps r : List Int) (k : Nat), ((((ps.zipIdx k).map (pmP y l)).zip r).map fun a => a.1.n * b2i (bit a.1.p ((t : Nat) + a.2))).sum = bearB y l (List.zipWith (· - ·) ps r) ((t : Nat) : Int) := by
    intro ps
    induction ps with
    | nil => intro _ _; rfl
    | cons p ps ih =>
      intro r k
      cases r with
      | nil => simp; rfl
      | cons s r =>
        rw [List.zipIdx_cons, List.map_cons, List.zip_cons_cons, List.map_cons, List.sum_cons, ih r (k + 1), List.zipWith_cons_cons, bearB_sum y l _ (_ :: _), List.map_cons, List.sum_cons, ← bearB_sum]
        congr 1
        show 1 * b2i (bit (sgP y l p) ((t : Nat) + s)) = _
        rw [sgP_at h, Int.one_mul, show ((t : Nat) : Int) + s - p = (t : Nat) - (p - s) by omega]
  exact gen ps r 0
/-- the evenest is what plants evenly spread reach -/
theorem evenest_agree (h : Life y l) (h6 : l ≤ 6) (hn : ps.length ≤ 5) : ∃ b, bestOf (gOf y l ps) (shN (lens (gOf y l ps))) = some b ∧ b.1 = (ps.length : Nat) * (l - y) / l := by
  have hl := h.pos
  have hlen : (lens (gOf y l ps)).length = ps.length := by rw [lens_gOf h, List.length_map]
  let r : List Int := List.zipWith (fun p q => (p - q) % l) ps (evenP l (ps.length : Nat))
  have he : (evenP l (ps.length : Nat)).length = ps.length := by simp [evenP]
  have hr : r.length = ps.length := by simp [r, he]
  have hrm : r ∈ shN (lens (gOf y l ps)) := by
    have := shN_mem (ls := lens (gOf y l ps)) (lens (gOf y l ps)).length (r := r) (Nat.le_refl _) (by omega) fun i x s hi h1 h2 => by
      rw [lens_gOf h, List.getElem?_map] at h1
      obtain ⟨_, _, rfl⟩ := Option.map_eq_some_iff.mp h1
      rw [List.getElem?_zipWith] at h2
      split at h2
      · cases h2
        exact ⟨Int.emod_nonneg _ (Int.ne_of_gt hl), Int.emod_lt_of_pos _ hl⟩
      · cases h2
    rwa [List.take_length] at this
  have hpos : 0 < (shN (lens (gOf y l ps))).length := List.length_pos_of_mem hrm
  obtain ⟨b, e, h1, s, hs, h2⟩ := best_spec (g := gOf y l ps) (shN (lens (gOf y l ps))) _ (Nat.le_refl _) hpos
  rw [List.take_length] at e h1 hs
  refine ⟨b, e, Int.le_antisymm ?_ ?_⟩
  · rw [h2, sumsBy_gOf h]
    have hsl : s.length = ps.length := by
      have := (shN_sh (gOf_ok h h6 (by omega)) hs).1
      rwa [gOf_ps] at this
    have hz : (List.zipWith (· - ·) ps s).length = ps.length := by simp [hsl]
    rw [← hz]
    refine worst h h6 fun t ht => mnL_le (List.mem_map.mpr ⟨t, by simp; omega, rfl⟩)
  · refine Int.le_trans ?_ (h1 r hrm)
    rw [sumsBy_gOf h]
    have hne : ov (bearB y l (List.zipWith (· - ·) ps r)) 60 ≠ [] := by
      intro z; have := congrArg List.length z; simp [ov] at this
    obtain ⟨t, ht, hte⟩ := List.mem_map.mp (mnL_mem hne)
    show _ ≤ mnL (List.map (fun t : Nat => bearB y l (List.zipWith (· - ·) ps r) ((t : Nat) : Int)) (List.range 60))
    rw [← hte]
    have hc : bearB y l (List.zipWith (· - ·) ps r) ((t : Nat) : Int) = bearB y l (evenP l (ps.length : Nat)) ((t : Nat) : Int) := by
      refine bearB_congr (by simp [hr, he]) fun i p q hp hq => ?_
      rw [List.getElem?_zipWith] at hp
      split at hp
      · rename_i a b ha hb
        cases hp
        simp only [r] at hb
        rw [List.getElem?_zipWith, ha, hq] at hb
        cases hb
        rw [Int.sub_emod, Int.emod_emod, ← Int.sub_emod, show a - (a - q) = q by omega]
      · cases hp
    rw [hc]
    exact even_ok h h6 hn _
theorem prod_gOf (h : Life y l) : ∀ n, n ≤ ps.length → prodL ((lens (gOf y l ps)).take n) = l ^ n
  | 0, _ => by simp [prodL]
  | n + 1, hn => by
    have hx : (lens (gOf y l ps))[n]? = some l := by
      rw [lens_gOf h, List.getElem?_map, List.getElem?_eq_getElem (by omega)]; rfl
    rw [take_snoc hx, prodL_snoc, prod_gOf h n (by omega), Int.pow_succ]
theorem best_ge (h : Life y l) (h6 : l ≤ 6) : mnL (rowsB y l ps) ≤ (ps.length : Nat) * (l - y) / l :=
  worst h h6 fun t ht => mnL_le (List.mem_map.mpr ⟨t, by simpa using ht, rfl⟩)
end
end K83

set_option Elab.async false
set_option linter.all false
set_option maxRecDepth 100000
set_option maxHeartbeats 4000000
set_option autoImplicit false
namespace K83
open PySem L2 Dl StX
open Evl (Ex fresh_back ex_rd)
variable {K : PySem.W.Frag}
local macro_rules | `(tactic| walk_at "side") => `(tactic| focus (first | assumption | rfl | exact Nat.le_of_ble_eq_true rfl | omega | decide | (simp; done) | (simp; omega)))
local macro_rules | `(tactic| walk_at "ix") => `(tactic| first | rfl | assumption | exact atI_nat (by focus (first | rfl | assumption | (simp; done))))
local macro_rules | `(tactic| walk_at "log") => `(tactic| first | assumption | exact mul_sm (by unfold Sm; omega) (by unfold Sm; omega) | exact log_sm2 (by unfold Sm; omega) | exact log_sm (by unfold Sm; omega) | decide)
local macro_rules | `(tactic| walk_at "R") => `(tactic| fail "no R")
local macro_rules | `(tactic| walk_at "r2") => `(tactic| first
  | exact d_add | exact d_sub | exact d_lt | exact d_le | exact d_gt | exact d_ge | exact d_eqI | exact d_neI | exact d_eqS | exact d_neS | exact d_eqB | exact d_neB
  | exact d_eqT2 | exact d_neT2 | exact d_eqTI | exact d_neTI | exact d_eqLI | exact d_neLI | (apply d_eqTS; assumption; assumption)
  | exact d_isN | exact d_ntN | exact d_isB | exact d_ntB
  | (apply d_mod; walk_at "side") | (apply d_div; walk_at "side"; walk_at "log") | (apply d_mul; walk_at "log") | (apply d_pow; walk_at "side"; walk_at "log")
  | exact d_inS | exact d_niS | exact d_inST | exact d_niST | exact d_inG | exact d_niG
  | (apply d_ixL; walk_at "ix") | (apply d_ixT; walk_at "ix") | (apply d_ixR; walk_at "ix") | (apply d_ixS; walk_at "side"; walk_at "ix") | (apply d_ixDs; walk_at "ix")
  | (apply d_inD; walk_at "side") | (apply d_niD; walk_at "side")
  | (apply d_addS; walk_at "side") | (apply d_addL; walk_at "side") | (apply d_addT; walk_at "side"))
local macro_rules | `(tactic| walk_at "ra") => `(tactic| first
  | exact d_lenL | exact d_lenT | (apply d_lenS; walk_at "side") | exact d_lenR | exact d_lenD | exact d_sum | exact d_all | exact d_any
  | (apply d_max; walk_at "side") | (apply d_min; walk_at "side") | exact d_max2 | exact d_min2 | exact d_abs | exact d_int | exact d_intB
  | (apply d_intS; walk_at "side"; walk_at "side") | (apply d_str; walk_at "log") | exact d_listL | exact d_listT | exact d_listD | exact d_tupL | exact d_sorted
  | (apply d_isiC; assumption)
  | exact d_isiTy (b := true) rfl (by decide +kernel) | exact d_isiTy (b := false) rfl (by decide +kernel))
local macro_rules | `(tactic| walk_at "gs") => `(tactic| first
  | exact gs_nil | (apply gs_cons; walk_at "gd"; walk_at "gs"))
local macro_rules | `(tactic| walk_at "gd") => `(tactic| first
  | exact gd_name (by decide) | (apply gd_tupU; walk_at "gs"; rfl) | (apply gd_lstU; walk_at "gs"; rfl))
local macro_rules | `(tactic| walk_at "ea") => `(tactic| first
  | exact ea_nil | (apply ea_cons; walk_at "ev"; walk_at "ea") | (apply ea_starT; walk_at "ev"; walk_at "ea") | (apply ea_starL; walk_at "ev"; walk_at "ea"))
local macro_rules | `(tactic| walk_at "eo") => `(tactic| first
  | exact eo_none | (apply eo_some; walk_at "ev"))
local macro_rules | `(tactic| walk_at "it") => `(tactic| first
  | (apply it_r1; walk_at "ea"; walk_at "side"; walk_at "side")
  | (apply it_r2; walk_at "ea"; walk_at "side"; walk_at "side"; walk_at "side"; walk_at "side")
  | (apply it_en; walk_at "ea"; first | exact Or.inl rfl | exact Or.inr rfl)
  | (apply it_zp; walk_at "ea"; (first | exact Or.inl rfl | exact Or.inr rfl); (first | exact Or.inl rfl | exact Or.inr rfl))
  | (apply it_anyL; walk_at "ev") | (apply it_anyT; walk_at "ev") | (apply it_anyS; walk_at "ev"))
local macro_rules | `(tactic| walk_at "hds") => `(tactic| first | rfl | exact (List.map_id _).symm)
local macro_rules | `(tactic| walk_at "turn1") => `(tactic| (intro a ha; apply ex2; walk_at "gd"; walk_at "ev"))
local macro_rules | `(tactic| walk_at "turn2") => `(tactic| (intro a ha; apply ex3; walk_at "gd"; walk_at "et"; (intro hb; walk_at "ev")))
local macro_rules | `(tactic| walk_at "lc") => `(tactic| first
  | (apply en_lc1I; walk_at "it"; walk_at "hds"; exact trivial; walk_at "side"; walk_at "turn1")
  | (apply en_lc1B; walk_at "it"; walk_at "hds"; exact trivial; walk_at "side"; walk_at "turn1")
  | (apply en_lc1S; walk_at "it"; walk_at "hds"; exact trivial; walk_at "side"; walk_at "turn1")
  | (apply en_lc1; walk_at "it"; walk_at "hds"; exact trivial; walk_at "side"; walk_at "turn1")
  | (apply en_lcI; walk_at "it"; walk_at "hds"; exact trivial; walk_at "side"; walk_at "turn2")
  | (apply en_lcS; walk_at "it"; walk_at "hds"; exact trivial; walk_at "side"; walk_at "turn2")
  | (apply en_lc; walk_at "it"; walk_at "hds"; exact trivial; walk_at "side"; walk_at "turn2"))
local macro_rules | `(tactic| walk_at "ev") => `(tactic| first
  | exact ev_int | exact ev_str | exact ev_bl | exact ev_non | exact ev_ty | exact ev_adr | exact ev_var rfl
  | (apply ev_op; walk_at "ev"; walk_at "ev"; walk_at "r2")
  | (apply ev_ixW; rfl; walk_at "ev"; rfl; walk_at "ix")
  | (apply ev_un; walk_at "ev"; exact d_uNeg)
  | (apply ev_cb; walk_at "ea"; walk_at "ra")
  | (apply ev_tup; walk_at "ea"; walk_at "side")
  | (apply ev_call; walk_at "ea"; walk_at "R")
  | (apply ev_meth; walk_at "ev"; decide; walk_at "ea"; walk_at "R")
  | (apply ev_prop; walk_at "ev"; walk_at "R")
  | (apply ev_fldS; walk_at "ev"; rfl; assumption; assumption)
  | (apply ev_eqE; walk_at "ev") | (apply ev_neE; walk_at "ev")
  | (apply ev_fz; walk_at "lc")
  | (apply ev_lst; walk_at "ea"; walk_at "side")
  | (apply ev_andV; walk_at "ev"; (intro h1; walk_at "ev"))
  | (apply ev_orV; walk_at "ev"; (intro h1; walk_at "ev"))
  | (apply ev_notV; walk_at "ev")
  | (apply ev_chain; walk_at "ev"; walk_at "ev"; walk_at "r2"; (intro h1; apply And.intro; walk_at "ev"; walk_at "r2"))
  | (apply ev_slL; walk_at "ev"; walk_at "eo"; walk_at "eo")
  | (apply ev_slT; walk_at "ev"; walk_at "eo"; walk_at "eo")
  | (apply ev_slS; walk_at "ev"; walk_at "eo"; walk_at "eo"; walk_at "side")
  | (apply ev_indexI; walk_at "ev"; walk_at "ev"; walk_at "side"))
local macro_rules | `(tactic| walk_at "et") => `(tactic| first
  | (apply et_test; walk_at "ev") | (apply et_B; walk_at "ev") | (apply et_not; walk_at "et")
  | (apply et_and; walk_at "et"; (intro h1; walk_at "et")) | (apply et_or; walk_at "et"; (intro h1; walk_at "et")) | exact et_yes)
local macro_rules | `(tactic| walk_at "nrm") => `(tactic| (try simp only [List.set_cons_succ, List.set_cons_zero]))
local macro_rules | `(tactic| walk_at "asg") => `(tactic| (apply q_asg; walk_at "ev"; walk_at "nrm"))
local macro_rules | `(tactic| walk_at "drop") => `(tactic| (apply q_drop; walk_at "ev"))
local macro_rules | `(tactic| walk_at "tup") => `(tactic| (apply q_tupU; walk_at "ev"; walk_at "gs"; rfl; walk_at "nrm"))
local macro_rules | `(tactic| walk_at "ret") => `(tactic| (apply st_ret; walk_at "ev"))
local macro_rules | `(tactic| walk_at "bf") => `(tactic| focus (first | rfl | (simp; done) | (simp; omega) | (simp [*]; done) | (simp [*]; omega)))
local macro_rules | `(tactic| walk_at "no") => `(tactic| (apply q_no; walk_at "et"; walk_at "bf"))
local macro_rules | `(tactic| walk_at "chk") => `(tactic| (apply st_chk; walk_at "et"; walk_at "bf"; rfl))
local macro_rules | `(tactic| walk_at "unl") => `(tactic| (apply q_lstU; walk_at "ev"; walk_at "gs"; rfl; walk_at "nrm"))
local macro_rules | `(tactic| walk_at "R") => `(tactic| exact r_is_integer)
local macro_rules | `(tactic| walk_at "R") => `(tactic| exact r_is_between)
local macro_rules | `(tactic| walk_at "R") => `(tactic| exact r_is_day)
local macro_rules | `(tactic| walk_at "R") => `(tactic| exact r_check_year (by walk_at "side"))
local macro_rules | `(tactic| walk_at "R") => `(tactic| exact r_check_number (by walk_at "side"))
local macro_rules | `(tactic| walk_at "R") => `(tactic| exact r_check_life (by walk_at "side"))
local macro_rules | `(tactic| walk_at "R") => `(tactic| exact r_are_plants_of (by walk_at "side") (by walk_at "side"))
local macro_rules | `(tactic| walk_at "R") => `(tactic| exact r_check_plants (by walk_at "side") (by walk_at "side"))
local macro_rules | `(tactic| walk_at "R") => `(tactic| exact r_bearing_by (by walk_at "side") (by walk_at "side"))
local macro_rules | `(tactic| walk_at "R") => `(tactic| exact r_bearing (by walk_at "side") (by walk_at "side") (by walk_at "side"))
local macro_rules | `(tactic| walk_at "R") => `(tactic| exact r_bearings_of (by walk_at "side") (by walk_at "side"))
local macro_rules | `(tactic| walk_at "R") => `(tactic| exact r_least_bearing (by walk_at "side") (by walk_at "side"))
local macro_rules | `(tactic| walk_at "R") => `(tactic| exact r_most_bearing (by walk_at "side") (by walk_at "side"))
local macro_rules | `(tactic| walk_at "R") => `(tactic| exact r_even_plants (by walk_at "side") (by walk_at "side"))
local macro_rules | `(tactic| walk_at "R") => `(tactic| exact r_most_always (by walk_at "side") (by walk_at "side"))
local macro_rules | `(tactic| walk_at "R") => `(tactic| exact r_best_plants (by walk_at "side") (by walk_at "side"))
local macro_rules | `(tactic| walk_at "R") => `(tactic| exact r_common (by walk_at "side") (by walk_at "side"))
local macro_rules | `(tactic| walk_at "R") => `(tactic| exact r_reduced (by walk_at "side") (by walk_at "side"))
local macro_rules | `(tactic| walk_at "R") => `(tactic| exact r_is_name (by walk_at "side"))
local macro_rules | `(tactic| walk_at "R") => `(tactic| exact r_read_integer (by walk_at "side"))
local macro_rules | `(tactic| walk_at "R") => `(tactic| exact r_is_pattern (by walk_at "side"))
local macro_rules | `(tactic| walk_at "R") => `(tactic| exact r_palm_in (by walk_at "side"))
local macro_rules | `(tactic| walk_at "R") => `(tactic| exact r_is_new (by walk_at "side") (by walk_at "side") (by walk_at "side") (by walk_at "side") (by walk_at "side"))
local macro_rules | `(tactic| walk_at "R") => `(tactic| exact r_palm_names)
local macro_rules | `(tactic| walk_at "R") => `(tactic| exact r_years_of (by walk_at "side") (by walk_at "side"))
local macro_rules | `(tactic| walk_at "R") => `(tactic| exact r_dates_of (by walk_at "side") (by walk_at "side"))
local macro_rules | `(tactic| walk_at "R") => `(tactic| exact r_check_grove)
local macro_rules | `(tactic| walk_at "R") => `(tactic| exact r_check_palm (by walk_at "side") (by walk_at "side"))
local macro_rules | `(tactic| walk_at "R") => `(tactic| exact r_bears_in (by walk_at "side") (by walk_at "side"))
local macro_rules | `(tactic| walk_at "R") => `(tactic| exact r_bears (by walk_at "side") (by walk_at "side") (by walk_at "side"))
local macro_rules | `(tactic| walk_at "R") => `(tactic| exact r_baskets_in (by walk_at "side"))
local macro_rules | `(tactic| walk_at "R") => `(tactic| exact r_baskets (by walk_at "side") (by walk_at "side"))
local macro_rules | `(tactic| walk_at "R") => `(tactic| exact r_bits_of (by walk_at "side") (by walk_at "side"))
local macro_rules | `(tactic| walk_at "R") => `(tactic| exact r_years_of_lot (by walk_at "side") (by walk_at "side") (by walk_at "side"))
local macro_rules | `(tactic| walk_at "R") => `(tactic| exact r_is_some_lot (by walk_at "side"))
local macro_rules | `(tactic| walk_at "R") => `(tactic| exact r_years_all (by walk_at "side"))
local macro_rules | `(tactic| walk_at "R") => `(tactic| exact r_sums_of (by walk_at "side"))
local macro_rules | `(tactic| walk_at "R") => `(tactic| exact r_most_baskets (by walk_at "side"))
local macro_rules | `(tactic| walk_at "R") => `(tactic| exact r_least_baskets (by walk_at "side"))
local macro_rules | `(tactic| walk_at "R") => `(tactic| exact r_mean_baskets (by walk_at "side"))
local macro_rules | `(tactic| walk_at "R") => `(tactic| exact r_lengths_of (by walk_at "side"))
local macro_rules | `(tactic| walk_at "R") => `(tactic| exact r_shift_count (by walk_at "side"))
local macro_rules | `(tactic| walk_at "R") => `(tactic| exact r_check_shifts_few (by walk_at "side") (by walk_at "side"))
local macro_rules | `(tactic| walk_at "R") => `(tactic| exact r_all_shifts (by walk_at "side") (by walk_at "side"))
local macro_rules | `(tactic| walk_at "R") => `(tactic| exact r_rows_shifted (by walk_at "side"))
local macro_rules | `(tactic| walk_at "R") => `(tactic| exact r_sums_by (by walk_at "side") (by walk_at "side"))
local macro_rules | `(tactic| walk_at "R") => `(tactic| exact r_told_evenest (by walk_at "side") (by walk_at "side"))
local macro_rules | `(tactic| walk_at "R") => `(tactic| exact r_evenest (by walk_at "side") (by walk_at "side"))
local macro_rules | `(tactic| walk_at "R") => `(tactic| exact r_cells)
local macro_rules | `(tactic| walk_at "R") => `(tactic| exact r_rows (by walk_at "side") (by walk_at "side"))
/-! one turn of the law -/
theorem ev_take {env : List Dl.Slot} {p : Addr} {x : Pot} {u : Int} {tu : TE} {E : XK} (h0 : env[0]? = some (.own p (.lst x.l))) (hu : Ev K tu env (.int u) env) (hx : PotOk 1000 x) (h : 1 ≤ u ∧ u ≤ 100000) :
    Ev K (tCall (spO K R_take) [] E (tCons (tVar 0) (tCons tu tNil))) env (.int (tkV x u)) (env.set 0 (.own p (.lst (tkP x u).l))) :=
  ev_callO h0 (ea_cons hu ea_nil) h0 (r_take hx h)
theorem PotOk.mono {n m : Int} {x : Pot} (h : PotOk n x) (hm : n ≤ m) : PotOk m x := ⟨h.a, h.b, h.c.1, Int.le_trans h.c.2 hm⟩
def ptI (x : Pot) (l : Int) : Nat → Pot
  | 0 => x
  | n + 1 => tkP (ptI x l n) l
theorem ptI_ok {x : Pot} {l k : Int} (h : PotOk k x) (hl : 1 ≤ l) : ∀ n : Nat, PotOk (k + n) (ptI x l n)
  | 0 => h.mono (by omega)
  | n + 1 => (tkP_ok (ptI_ok h hl n) hl).mono (by omega)
/-- what a turn draws -/
structure Drawn where
  l : Int
  y : Int
  m : Nat
  ps : List Int
  y1 : Int
  y2 : Int
  x : Pot
def drawn (x : Pot) : Drawn :=
  let l := 1 + tkV x 6
  let x1 := tkP x 6
  let y := tkV x1 l
  let x2 := tkP x1 l
  let m := (1 + tkV x2 4).toNat
  let x3 := tkP x2 4
  let x4 := ptI x3 l m
  let x5 := tkP x4 60
  ⟨l, y, m, srt ((List.range m).map fun i => tkV (ptI x3 l i) l), tkV x4 60, tkV x5 9999, tkP x5 9999⟩
structure DrawnOk (d : Drawn) : Prop where
  life : Life d.y d.l
  l6 : d.l ≤ 6
  m : 1 ≤ d.m ∧ d.m ≤ 4
  len : d.ps.length = d.m
  pl : Plants d.l d.ps
  y1 : 0 ≤ d.y1 ∧ d.y1 ≤ 9999
  y2 : 0 ≤ d.y2 ∧ d.y2 ≤ 9999
theorem drawn_ok (x : Pot) : DrawnOk (drawn x) := by
  have b0 := tkV_bd x (u := 6) (by omega)
  have b1 := tkV_bd (tkP x 6) (u := 1 + tkV x 6) (by omega)
  have b2 := tkV_bd (tkP (tkP x 6) (1 + tkV x 6)) (u := 4) (by omega)
  have hlen : (drawn x).ps.length = (drawn x).m := by
    show (srt _).length = _
    rw [(srt_perm _).length_eq, List.length_map, List.length_range]
    rfl
  have hm : 1 ≤ (drawn x).m ∧ (drawn x).m ≤ 4 := by
    show 1 ≤ (1 + tkV (tkP (tkP x 6) (1 + tkV x 6)) 4).toNat ∧ (1 + tkV (tkP (tkP x 6) (1 + tkV x 6)) 4).toNat ≤ 4
    omega
  refine ⟨⟨b1.1, b1.2, ?_⟩, ?_, hm, hlen, ⟨by omega, fun p hp => ?_, srt_pw _⟩, ?_, ?_⟩
  · show 1 + tkV x 6 ≤ 60; omega
  · show 1 + tkV x 6 ≤ 6; omega
  · have hp := (srt_perm _).mem_iff.mp hp
    obtain ⟨i, _, rfl⟩ := List.mem_map.mp hp
    exact tkV_bd _ (by omega)
  · have := tkV_bd (ptI (tkP (tkP (tkP x 6) (1 + tkV x 6)) 4) (1 + tkV x 6) (1 + tkV (tkP (tkP x 6) (1 + tkV x 6)) 4).toNat) (u := 60) (by omega)
    show 0 ≤ tkV _ 60 ∧ tkV _ 60 ≤ 9999
    exact ⟨this.1, by have := this.2; omega⟩
  · have := tkV_bd (tkP (ptI (tkP (tkP (tkP x 6) (1 + tkV x 6)) 4) (1 + tkV x 6) (1 + tkV (tkP (tkP x 6) (1 + tkV x 6)) 4).toNat) 60) (u := 9999) (by omega)
    show 0 ≤ tkV _ 9999 ∧ tkV _ 9999 ≤ 9999
    exact ⟨this.1, by have := this.2; omega⟩
def R_right (o : OD) (ds : List D) (d : D) (o' : OD) : Prop := ∃ (x : Pot), PotOk 900 x ∧ o = .lst x.l ∧ ds = [] ∧ d = .bl true ∧ o' = .lst (drawn x).x.l
theorem drawn_pot {x : Pot} {k : Int} (h : PotOk k x) : PotOk (k + 9) (drawn x).x := by
  have hd := drawn_ok x
  have b0 := tkV_bd x (u := 6) (by omega)
  have h1 := tkP_ok h (u := 6) (by omega)
  have h2 := tkP_ok h1 (u := 1 + tkV x 6) (by omega)
  have h3 := tkP_ok h2 (u := 4) (by omega)
  have h4 := ptI_ok h3 (l := 1 + tkV x 6) (by omega) (drawn x).m
  have h5 := tkP_ok h4 (u := 60) (by omega)
  have h6 := tkP_ok h5 (u := 9999) (by omega)
  exact h6.mono (by have := hd.m; omega)
end K83

set_option Elab.async false
set_option linter.all false
set_option maxRecDepth 100000
set_option maxHeartbeats 1000000
set_option autoImplicit false
namespace K83
open PySem L2 Dl StX
open Evl (Ex fresh_back ex_rd)
variable {K : PySem.W.Frag}
local macro_rules | `(tactic| walk_at "side") => `(tactic| focus (first | assumption | rfl | exact Nat.le_of_ble_eq_true rfl | omega | decide | (simp; done) | (simp; omega)))
local macro_rules | `(tactic| walk_at "ix") => `(tactic| first | rfl | assumption | exact atI_nat (by focus (first | rfl | assumption | (simp; done))))
local macro_rules | `(tactic| walk_at "log") => `(tactic| first | assumption | exact mul_sm (by unfold Sm; omega) (by unfold Sm; omega) | exact log_sm2 (by unfold Sm; omega) | exact log_sm (by unfold Sm; omega) | decide)
local macro_rules | `(tactic| walk_at "R") => `(tactic| fail "no R")
local macro_rules | `(tactic| walk_at "r2") => `(tactic| first
  | exact d_add | exact d_sub | exact d_lt | exact d_le | exact d_gt | exact d_ge | exact d_eqI | exact d_neI | exact d_eqS | exact d_neS | exact d_eqB | exact d_neB
  | exact d_eqT2 | exact d_neT2 | exact d_eqTI | exact d_neTI | exact d_eqLI | exact d_neLI | (apply d_eqTS; assumption; assumption)
  | exact d_isN | exact d_ntN | exact d_isB | exact d_ntB
  | (apply d_mod; walk_at "side") | (apply d_div; walk_at "side"; walk_at "log") | (apply d_mul; walk_at "log") | (apply d_pow; walk_at "side"; walk_at "log")
  | exact d_inS | exact d_niS | exact d_inST | exact d_niST | exact d_inG | exact d_niG
  | (apply d_ixL; walk_at "ix") | (apply d_ixT; walk_at "ix") | (apply d_ixR; walk_at "ix") | (apply d_ixS; walk_at "side"; walk_at "ix") | (apply d_ixDs; walk_at "ix")
  | (apply d_inD; walk_at "side") | (apply d_niD; walk_at "side")
  | (apply d_addS; walk_at "side") | (apply d_addL; walk_at "side") | (apply d_addT; walk_at "side"))
local macro_rules | `(tactic| walk_at "ra") => `(tactic| first
  | exact d_lenL | exact d_lenT | (apply d_lenS; walk_at "side") | exact d_lenR | exact d_lenD | exact d_sum | exact d_all | exact d_any
  | (apply d_max; walk_at "side") | (apply d_min; walk_at "side") | exact d_max2 | exact d_min2 | exact d_abs | exact d_int | exact d_intB
  | (apply d_intS; walk_at "side"; walk_at "side") | (apply d_str; walk_at "log") | exact d_listL | exact d_listT | exact d_listD | exact d_tupL | exact d_sorted
  | (apply d_isiC; assumption)
  | exact d_isiTy (b := true) rfl (by decide +kernel) | exact d_isiTy (b := false) rfl (by decide +kernel))
local macro_rules | `(tactic| walk_at "gs") => `(tactic| first
  | exact gs_nil | (apply gs_cons; walk_at "gd"; walk_at "gs"))
local macro_rules | `(tactic| walk_at "gd") => `(tactic| first
  | exact gd_name (by decide) | (apply gd_tupU; walk_at "gs"; rfl) | (apply gd_lstU; walk_at "gs"; rfl))
local macro_rules | `(tactic| walk_at "ea") => `(tactic| first
  | exact ea_nil | (apply ea_cons; walk_at "ev"; walk_at "ea") | (apply ea_starT; walk_at "ev"; walk_at "ea") | (apply ea_starL; walk_at "ev"; walk_at "ea"))
local macro_rules | `(tactic| walk_at "eo") => `(tactic| first
  | exact eo_none | (apply eo_some; walk_at "ev"))
local macro_rules | `(tactic| walk_at "it") => `(tactic| first
  | (apply it_r1; walk_at "ea"; walk_at "side"; walk_at "side")
  | (apply it_r2; walk_at "ea"; walk_at "side"; walk_at "side"; walk_at "side"; walk_at "side")
  | (apply it_en; walk_at "ea"; first | exact Or.inl rfl | exact Or.inr rfl)
  | (apply it_zp; walk_at "ea"; (first | exact Or.inl rfl | exact Or.inr rfl); (first | exact Or.inl rfl | exact Or.inr rfl))
  | (apply it_anyL; walk_at "ev") | (apply it_anyT; walk_at "ev") | (apply it_anyS; walk_at "ev"))
local macro_rules | `(tactic| walk_at "hds") => `(tactic| first | rfl | exact (List.map_id _).symm)
local macro_rules | `(tactic| walk_at "turn1") => `(tactic| (intro a ha; apply ex2; walk_at "gd"; walk_at "ev"))
local macro_rules | `(tactic| walk_at "turn2") => `(tactic| (intro a ha; apply ex3; walk_at "gd"; walk_at "et"; (intro hb; walk_at "ev")))
local macro_rules | `(tactic| walk_at "lc") => `(tactic| first
  | (apply en_lc1I; walk_at "it"; walk_at "hds"; exact trivial; walk_at "side"; walk_at "turn1")
  | (apply en_lc1B; walk_at "it"; walk_at "hds"; exact trivial; walk_at "side"; walk_at "turn1")
  | (apply en_lc1S; walk_at "it"; walk_at "hds"; exact trivial; walk_at "side"; walk_at "turn1")
  | (apply en_lc1; walk_at "it"; walk_at "hds"; exact trivial; walk_at "side"; walk_at "turn1")
  | (apply en_lcI; walk_at "it"; walk_at "hds"; exact trivial; walk_at "side"; walk_at "turn2")
  | (apply en_lcS; walk_at "it"; walk_at "hds"; exact trivial; walk_at "side"; walk_at "turn2")
  | (apply en_lc; walk_at "it"; walk_at "hds"; exact trivial; walk_at "side"; walk_at "turn2"))
local macro_rules | `(tactic| walk_at "ev") => `(tactic| first
  | exact ev_int | exact ev_str | exact ev_bl | exact ev_non | exact ev_ty | exact ev_adr | exact ev_var rfl
  | (apply ev_op; walk_at "ev"; walk_at "ev"; walk_at "r2")
  | (apply ev_ixW; rfl; walk_at "ev"; rfl; walk_at "ix")
  | (apply ev_un; walk_at "ev"; exact d_uNeg)
  | (apply ev_cb; walk_at "ea"; walk_at "ra")
  | (apply ev_tup; walk_at "ea"; walk_at "side")
  | (apply ev_call; walk_at "ea"; walk_at "R")
  | (apply ev_meth; walk_at "ev"; decide; walk_at "ea"; walk_at "R")
  | (apply ev_prop; walk_at "ev"; walk_at "R")
  | (apply ev_fldS; walk_at "ev"; rfl; assumption; assumption)
  | (apply ev_eqE; walk_at "ev") | (apply ev_neE; walk_at "ev")
  | (apply ev_fz; walk_at "lc")
  | (apply ev_lst; walk_at "ea"; walk_at "side")
  | (apply ev_andV; walk_at "ev"; (intro h1; walk_at "ev"))
  | (apply ev_orV; walk_at "ev"; (intro h1; walk_at "ev"))
  | (apply ev_notV; walk_at "ev")
  | (apply ev_chain; walk_at "ev"; walk_at "ev"; walk_at "r2"; (intro h1; apply And.intro; walk_at "ev"; walk_at "r2"))
  | (apply ev_slL; walk_at "ev"; walk_at "eo"; walk_at "eo")
  | (apply ev_slT; walk_at "ev"; walk_at "eo"; walk_at "eo")
  | (apply ev_slS; walk_at "ev"; walk_at "eo"; walk_at "eo"; walk_at "side")
  | (apply ev_indexI; walk_at "ev"; walk_at "ev"; walk_at "side"))
local macro_rules | `(tactic| walk_at "et") => `(tactic| first
  | (apply et_test; walk_at "ev") | (apply et_B; walk_at "ev") | (apply et_not; walk_at "et")
  | (apply et_and; walk_at "et"; (intro h1; walk_at "et")) | (apply et_or; walk_at "et"; (intro h1; walk_at "et")) | exact et_yes)
local macro_rules | `(tactic| walk_at "nrm") => `(tactic| (try simp only [List.set_cons_succ, List.set_cons_zero]))
local macro_rules | `(tactic| walk_at "asg") => `(tactic| (apply q_asg; walk_at "ev"; walk_at "nrm"))
local macro_rules | `(tactic| walk_at "drop") => `(tactic| (apply q_drop; walk_at "ev"))
local macro_rules | `(tactic| walk_at "tup") => `(tactic| (apply q_tupU; walk_at "ev"; walk_at "gs"; rfl; walk_at "nrm"))
local macro_rules | `(tactic| walk_at "ret") => `(tactic| (apply st_ret; walk_at "ev"))
local macro_rules | `(tactic| walk_at "bf") => `(tactic| focus (first | rfl | (simp; done) | (simp; omega) | (simp [*]; done) | (simp [*]; omega)))
local macro_rules | `(tactic| walk_at "no") => `(tactic| (apply q_no; walk_at "et"; walk_at "bf"))
local macro_rules | `(tactic| walk_at "chk") => `(tactic| (apply st_chk; walk_at "et"; walk_at "bf"; rfl))
local macro_rules | `(tactic| walk_at "unl") => `(tactic| (apply q_lstU; walk_at "ev"; walk_at "gs"; rfl; walk_at "nrm"))
local macro_rules | `(tactic| walk_at "R") => `(tactic| exact r_is_integer)
local macro_rules | `(tactic| walk_at "R") => `(tactic| exact r_is_between)
local macro_rules | `(tactic| walk_at "R") => `(tactic| exact r_is_day)
local macro_rules | `(tactic| walk_at "R") => `(tactic| exact r_check_year (by walk_at "side"))
local macro_rules | `(tactic| walk_at "R") => `(tactic| exact r_check_number (by walk_at "side"))
local macro_rules | `(tactic| walk_at "R") => `(tactic| exact r_check_life (by walk_at "side"))
local macro_rules | `(tactic| walk_at "R") => `(tactic| exact r_are_plants_of (by walk_at "side") (by walk_at "side"))
local macro_rules | `(tactic| walk_at "R") => `(tactic| exact r_check_plants (by walk_at "side") (by walk_at "side"))
local macro_rules | `(tactic| walk_at "R") => `(tactic| exact r_bearing_by (by walk_at "side") (by walk_at "side"))
local macro_rules | `(tactic| walk_at "R") => `(tactic| exact r_bearing (by walk_at "side") (by walk_at "side") (by walk_at "side"))
local macro_rules | `(tactic| walk_at "R") => `(tactic| exact r_bearings_of (by walk_at "side") (by walk_at "side"))
local macro_rules | `(tactic| walk_at "R") => `(tactic| exact r_least_bearing (by walk_at "side") (by walk_at "side"))
local macro_rules | `(tactic| walk_at "R") => `(tactic| exact r_most_bearing (by walk_at "side") (by walk_at "side"))
local macro_rules | `(tactic| walk_at "R") => `(tactic| exact r_even_plants (by walk_at "side") (by walk_at "side"))
local macro_rules | `(tactic| walk_at "R") => `(tactic| exact r_most_always (by walk_at "side") (by walk_at "side"))
local macro_rules | `(tactic| walk_at "R") => `(tactic| exact r_best_plants (by walk_at "side") (by walk_at "side"))
local macro_rules | `(tactic| walk_at "R") => `(tactic| exact r_common (by walk_at "side") (by walk_at "side"))
local macro_rules | `(tactic| walk_at "R") => `(tactic| exact r_reduced (by walk_at "side") (by walk_at "side"))
local macro_rules | `(tactic| walk_at "R") => `(tactic| exact r_is_name (by walk_at "side"))
local macro_rules | `(tactic| walk_at "R") => `(tactic| exact r_read_integer (by walk_at "side"))
local macro_rules | `(tactic| walk_at "R") => `(tactic| exact r_is_pattern (by walk_at "side"))
local macro_rules | `(tactic| walk_at "R") => `(tactic| exact r_palm_in (by walk_at "side"))
local macro_rules | `(tactic| walk_at "R") => `(tactic| exact r_is_new (by walk_at "side") (by walk_at "side") (by walk_at "side") (by walk_at "side") (by walk_at "side"))
local macro_rules | `(tactic| walk_at "R") => `(tactic| exact r_palm_names)
local macro_rules | `(tactic| walk_at "R") => `(tactic| exact r_years_of (by walk_at "side") (by walk_at "side"))
local macro_rules | `(tactic| walk_at "R") => `(tactic| exact r_dates_of (by walk_at "side") (by walk_at "side"))
local macro_rules | `(tactic| walk_at "R") => `(tactic| exact r_check_grove)
local macro_rules | `(tactic| walk_at "R") => `(tactic| exact r_check_palm (by walk_at "side") (by walk_at "side"))
local macro_rules | `(tactic| walk_at "R") => `(tactic| exact r_bears_in (by walk_at "side") (by walk_at "side"))
local macro_rules | `(tactic| walk_at "R") => `(tactic| exact r_bears (by walk_at "side") (by walk_at "side") (by walk_at "side"))
local macro_rules | `(tactic| walk_at "R") => `(tactic| exact r_baskets_in (by walk_at "side"))
local macro_rules | `(tactic| walk_at "R") => `(tactic| exact r_baskets (by walk_at "side") (by walk_at "side"))
local macro_rules | `(tactic| walk_at "R") => `(tactic| exact r_bits_of (by walk_at "side") (by walk_at "side"))
local macro_rules | `(tactic| walk_at "R") => `(tactic| exact r_years_of_lot (by walk_at "side") (by walk_at "side") (by walk_at "side"))
local macro_rules | `(tactic| walk_at "R") => `(tactic| exact r_is_some_lot (by walk_at "side"))
local macro_rules | `(tactic| walk_at "R") => `(tactic| exact r_years_all (by walk_at "side"))
local macro_rules | `(tactic| walk_at "R") => `(tactic| exact r_sums_of (by walk_at "side"))
local macro_rules | `(tactic| walk_at "R") => `(tactic| exact r_most_baskets (by walk_at "side"))
local macro_rules | `(tactic| walk_at "R") => `(tactic| exact r_least_baskets (by walk_at "side"))
local macro_rules | `(tactic| walk_at "R") => `(tactic| exact r_mean_baskets (by walk_at "side"))
local macro_rules | `(tactic| walk_at "R") => `(tactic| exact r_lengths_of (by walk_at "side"))
local macro_rules | `(tactic| walk_at "R") => `(tactic| exact r_shift_count (by walk_at "side"))
local macro_rules | `(tactic| walk_at "R") => `(tactic| exact r_check_shifts_few (by walk_at "side") (by walk_at "side"))
local macro_rules | `(tactic| walk_at "R") => `(tactic| exact r_all_shifts (by walk_at "side") (by walk_at "side"))
local macro_rules | `(tactic| walk_at "R") => `(tactic| exact r_rows_shifted (by walk_at "side"))
local macro_rules | `(tactic| walk_at "R") => `(tactic| exact r_sums_by (by walk_at "side") (by walk_at "side"))
local macro_rules | `(tactic| walk_at "R") => `(tactic| exact r_told_evenest (by walk_at "side") (by walk_at "side"))
local macro_rules | `(tactic| walk_at "R") => `(tactic| exact r_evenest (by walk_at "side") (by walk_at "side"))
local macro_rules | `(tactic| walk_at "R") => `(tactic| exact r_cells)
local macro_rules | `(tactic| walk_at "R") => `(tactic| exact r_rows (by walk_at "side") (by walk_at "side"))
/-- the slots of a turn -/
abbrev env16 (p : Addr) (x : Pot) (l pl ln a b c g r yr tp lw nm sm lp life : Dl.Slot) : List Dl.Slot := [.own p (.lst x.l), l, life, pl, ln, a, b, c, g, r, yr, tp, lw, nm, sm, lp]
theorem ev_strI {env env1 : List Dl.Slot} {te : TE} {i : Nat} (h : Ev K te env (.int (i : Nat)) env1) (hi : i ≤ 100000) : Ev K (tCB rStrI (tCons te tNil)) env (.str (Str.ofString (toString ((i : Nat) : Int)))) env1 :=
  ev_cb (ea_cons h ea_nil) (d_str (log_sm (by unfold Sm; omega)))
theorem num_len {i : Nat} (h : i < 10) : (Str.ofString (toString ((i : Nat) : Int))).length = 1 := by
  rw [len_tl', TL.tl_num, TL.numL_lt h]; rfl
theorem app_len (a b : Str) : (a ++ b).length = a.length + b.length := by
  rw [len_tl', len_tl', len_tl', TL.tl_append, List.length_append]
/-- the tail of the turn: what is asked of the grove -/
abbrev PR (p : Addr) (x : Pot) : Post := { n := fun e => D.bl true = .non ∧ e[0]? = some (Slot.own p (.lst x.l)), r := fun d' e => d' = D.bl true ∧ e[0]? = some (Slot.own p (.lst x.l)) }
theorem gd_eq {C : Addr} {y l : Int} {ps : List Int} : (gOf y l ps).d C = grD C (textP y l ps) (gOf y l ps).s := rfl
theorem p_right {C : Addr} : ∀ p o ds d o', R_right o ds d o' → St K (t__law_right K C (spO K R_take) (spD K R_rows) (sp_grove K C) (spD K (R_baskets C)) (spD K R_bearing) (spD K (R_bears C)) (spD K (R_least_baskets C)) (spD K R_least_bearing) (spD K (R_most_baskets C)) (spD K R_most_bearing) (spD K (R_mean_baskets C)) (spD K (R_years_all C)) (spD K (R_evenest C)) (spD K R_best_plants))
    (.own p o :: ds.map Slot.val ++ List.replicate (N__law_right.length - (ds.length + 1)) .no) { n := fun e => d = .non ∧ e[0]? = some (Slot.own p o'), r := fun d' e => d' = d ∧ e[0]? = some (Slot.own p o') } := by
  rintro p _ _ _ _ ⟨x, hx, rfl, rfl, rfl, rfl⟩
  have hd := drawn_ok x
  have b0 := tkV_bd x (u := 6) (by omega)
  have o1 := tkP_ok hx (u := 6) (by omega)
  have o2 := tkP_ok o1 (u := 1 + tkV x 6) (by omega)
  have o3 := tkP_ok o2 (u := 4) (by omega)
  have b3 := tkV_bd (tkP (tkP x 6) (1 + tkV x 6)) (u := 4) (by omega)
  show St K _ (env16 p x .no .no .no .no .no .no .no .no .no .no .no .no .no .no .no) (PR p (drawn x).x)
  refine q_asg (d := .int (1 + tkV x 6)) (env1 := env16 p (tkP x 6) .no .no .no .no .no .no .no .no .no .no .no .no .no .no .no) (ev_cb (ea_cons (ev_op ev_int (ev_take rfl ev_int (hx.mono (by omega)) (by omega)) d_add) ea_nil) d_int) ?_
  refine q_tupU (ds := [.tup [.int (drawn x).y, .int (1 + tkV x 6)], .lst []]) (env1 := env16 p (tkP (tkP x 6) (1 + tkV x 6)) (.val (.int (1 + tkV x 6))) .no .no .no .no .no .no .no .no .no .no .no .no .no .no)
    (env2 := env16 p (tkP (tkP x 6) (1 + tkV x 6)) (.val (.int (1 + tkV x 6))) (.val (.lst [])) .no .no .no .no .no .no .no .no .no .no .no .no (.val (.tup [.int (drawn x).y, .int (1 + tkV x 6)])))
    (ev_tup (ea_cons (ev_tup (ea_cons (ev_cb (ea_cons (ev_take rfl (ev_var rfl) (o1.mono (by omega)) (by omega)) ea_nil) d_int) (ea_cons (ev_var rfl) ea_nil)) (Nat.le_of_ble_eq_true rfl)) (ea_cons (ev_lst ea_nil (Nat.le_of_ble_eq_true rfl)) ea_nil)) (Nat.le_of_ble_eq_true rfl)) (by walk_at "gs") rfl ?_
  refine q_asg (d := .tup ((drawn x).ps.map .int)) (env1 := env16 p (ptI (tkP (tkP (tkP x 6) (1 + tkV x 6)) 4) (1 + tkV x 6) (drawn x).m) (.val (.int (1 + tkV x 6))) (.val (.lst [])) .no .no .no .no .no .no .no .no .no .no .no .no (.val (.tup [.int (drawn x).y, .int (1 + tkV x 6)]))) ?_ ?_
  · refine ev_cb (ea_cons (ev_cb (ea_cons (ev_is (d := .lst ((List.range (List.range (drawn x).m).length).map fun i => .int (tkV (ptI (tkP (tkP (tkP x 6) (1 + tkV x 6)) 4) (1 + tkV x 6) i) (1 + tkV x 6)))) (c := .lst (((List.range (drawn x).m).map fun i => tkV (ptI (tkP (tkP (tkP x 6) (1 + tkV x 6)) 4) (1 + tkV x 6) i) (1 + tkV x 6)).map .int)) (ev_fz ?_) ?_) ea_nil) d_sorted) ea_nil) d_tupL
    · have := en_lcO (K := K) (te := tCB uInt (tCons (tCall (spO K R_take) [] E0 (tCons (tVar 0) (tCons (tVar 1) tNil))) tNil)) (g := gName 15) (vs := [15]) (List.range (drawn x).m) (fun i => D.int (i : Nat)) (fun i => .lst (ptI (tkP (tkP (tkP x 6) (1 + tkV x 6)) 4) (1 + tkV x 6) i).l) (fun i => .int (tkV (ptI (tkP (tkP (tkP x 6) (1 + tkV x 6)) 4) (1 + tkV x 6) i) (1 + tkV x 6))) 0 p
        (env := env16 p (tkP (tkP x 6) (1 + tkV x 6)) (.val (.int (1 + tkV x 6))) (.val (.lst [])) .no .no .no .no .no .no .no .no .no .no .no .no (.val (.tup [.int (drawn x).y, .int (1 + tkV x 6)])))
        (env1 := env16 p (tkP (tkP (tkP x 6) (1 + tkV x 6)) 4) (.val (.int (1 + tkV x 6))) (.val (.lst [])) .no .no .no .no .no .no .no .no .no .no .no .no (.val (.tup [.int (drawn x).y, .int (1 + tkV x 6)])))
        (it_r1 (ea_cons (ev_op ev_int (ev_take (E := E0) rfl ev_int (o2.mono (by omega)) (by omega)) d_add) ea_nil) (by omega) (by omega)) rfl rfl (by decide) (by rw [List.length_range]; have := hd.m; omega) (fun i a ha => ⟨_, gd_name (by decide), rfl, ev_cb (ea_cons (ev_take rfl (ev_var rfl) ((ptI_ok o3 (by omega) i).mono (by
          have h1 := (List.getElem?_eq_some_iff.mp ha).1
          rw [List.length_range] at h1
          have := hd.m; omega)) (by omega)) ea_nil) d_int⟩)
      rw [List.length_range] at this ⊢
      exact this
    · rw [List.length_range, List.map_map]; rfl
  have o4 : PotOk 990 (ptI (tkP (tkP (tkP x 6) (1 + tkV x 6)) 4) (1 + tkV x 6) (drawn x).m) := (ptI_ok o3 (by omega) (drawn x).m).mono (by have := hd.m; omega)
  obtain ⟨hL, hl6, hm, hlen, hpl, hy1, hy2⟩ := hd
  have e1 : (drawn x).y1 = tkV (ptI (tkP (tkP (tkP x 6) (1 + tkV x 6)) 4) (1 + tkV x 6) (drawn x).m) 60 := rfl
  have e2 : (drawn x).y2 = tkV (tkP (ptI (tkP (tkP (tkP x 6) (1 + tkV x 6)) 4) (1 + tkV x 6) (drawn x).m) 60) 9999 := rfl
  have e3 : (drawn x).x = tkP (tkP (ptI (tkP (tkP (tkP x 6) (1 + tkV x 6)) 4) (1 + tkV x 6) (drawn x).m) 60) 9999 := rfl
  rw [e1] at hy1
  rw [e2] at hy2
  rw [e3]
  clear e1 e2 e3
  show St K _ (env16 p (ptI (tkP (tkP (tkP x 6) (1 + tkV x 6)) 4) (1 + tkV x 6) (drawn x).m) (.val (.int (1 + tkV x 6))) (.val (.tup ((drawn x).ps.map .int))) .no .no .no .no .no .no .no .no .no .no .no .no (.val (.tup [.int (drawn x).y, .int (1 + tkV x 6)]))) _
  generalize ptI (tkP (tkP (tkP x 6) (1 + tkV x 6)) 4) (1 + tkV x 6) (drawn x).m = x4 at *
  generalize (drawn x).ps = ps at *
  generalize (drawn x).y = y at *
  have hll : (drawn x).l = 1 + tkV x 6 := rfl
  rw [hll] at hL hl6 hpl
  generalize 1 + tkV x 6 = l at *
  generalize (drawn x).m = m at *
  clear hll b0 o1 o2 o3 b3 hx x
  have hl := hL.pos
  have hps : ps.length ≤ 4 := by omega
  have hne : ps ≠ [] := by intro z; rw [z] at hlen; simp at hlen; omega
  have hgo := gOf_ok (ps := ps) hL hl6 (by omega)
  have htold := told hL hl6 (ps := ps) (by omega) hne
  refine q_asgN (ds := [.str ("grove 1 1" : Str)]) (env1 := env16 p x4 (.val (.int l)) (.val (.tup (ps.map .int))) .no .no .no .no .no .no .no .no .no .no .no .no (.val (.tup [.int y, .int l]))) (en_lst (by walk_at "ea") (Nat.le_of_ble_eq_true rfl)) fun p4 => ?_
  refine Dl.q (st_for (vs := List.range 40) (env1 := env16 p x4 (.val (.int l)) (.val (.tup (ps.map .int))) (.own p4 (.lst [.str ("grove 1 1" : Str)])) .no .no .no .no .no .no .no .no .no .no .no (.val (.tup [.int y, .int l]))) (ds := ((ps.map D.int).zipIdx).map fun p => D.tup [.int (p.2 : Nat), p.1]) (Wp := fun _ => True) (it_en (by walk_at "ea") (Or.inr rfl))
    (fun i e => ∃ a b c, e = env16 p x4 (.val (.int l)) (.val (.tup (ps.map .int))) (.own p4 (.lst ((("grove 1 1" : Str) :: (linesP y l ps).take i).map .str))) a b c .no .no .no .no .no .no .no .no (.val (.tup [.int y, .int l]))) ⟨.no, .no, .no, rfl⟩ (fun _ _ _ _ => trivial) ?_ ?_)
  · rintro i d _ hdd ⟨a, b, c, rfl⟩
    rw [List.getElem?_map, List.getElem?_zipIdx, List.getElem?_map] at hdd
    have hi : i < ps.length := by
      rcases Nat.lt_or_ge i ps.length with z | z
      · exact z
      · rw [List.getElem?_eq_none z] at hdd; cases hdd
    rw [List.getElem?_eq_getElem hi] at hdd
    simp only [Option.map_some, Nat.zero_add] at hdd
    cases hdd
    have hline : (linesP y l ps)[i]? = some (lineP i (sgP y l ps[i])) := by
      rw [linesP, List.getElem?_map, List.getElem?_zipIdx, List.getElem?_eq_getElem hi]; simp
    generalize ps[i] = q at hline
    have hn1 := num_len (i := i) (by omega)
    have hsl := sgP_len (y := y) (p := q) hl
    refine ⟨env16 p x4 (.val (.int l)) (.val (.tup (ps.map .int))) (.own p4 (.lst ((("grove 1 1" : Str) :: (linesP y l ps).take i).map .str))) (.val (.int (i : Nat))) (.val (.int q)) c .no .no .no .no .no .no .no .no (.val (.tup [.int y, .int l])), by walk_at "gd", ?_⟩
    refine q_asg (d := .str (sgP y l q)) (env1 := env16 p x4 (.val (.int l)) (.val (.tup (ps.map .int))) (.own p4 (.lst ((("grove 1 1" : Str) :: (linesP y l ps).take i).map .str))) (.val (.int (i : Nat))) (.val (.int q)) c .no .no .no .no .no .no .no .no (.val (.tup [.int y, .int l]))) ?_ ?_
    · refine ev_join (ys := sgW y l q) ev_str (ev_fz ?_) ?_
      · apply en_lc1S (List.range l.toNat) (fun t => D.int (t : Nat)) (fun t => if decide (y ≤ (((t : Nat) : Int) - q) % l) then ("1" : Str) else ("0" : Str))
        · walk_at "it"
        · rfl
        · trivial
        · rw [List.length_range]; omega
        · intro t ht
          apply ex2
          walk_at "gd"
          refine ev_if (x := decide (y ≤ (((t : Nat) : Int) - q) % l)) (by walk_at "et") (fun hb => ?_) (fun hb => ?_)
          · rw [hb]; exact ev_str
          · rw [hb]; exact ev_str
      · have h1 : (sgW y l q).length = l.toNat := by simp [sgW]
        have h2 : ((sgW y l q).map (·.length)).sum ≤ (sgW y l q).length := by
          have gen : ∀ L : List Str, (∀ w ∈ L, w.length ≤ 1) → (L.map (·.length)).sum ≤ L.length := by
            intro L
            induction L with
            | nil => intro _; simp
            | cons w L ih =>
              intro hw
              have a1 := hw w (by simp)
              have a2 := ih fun z hz => hw z (by simp [hz])
              simp only [List.map_cons, List.sum_cons, List.length_cons]; omega
          refine gen _ fun w hw => ?_
          obtain ⟨t, _, rfl⟩ := List.mem_map.mp hw
          split <;> decide
        have h3 : ("" : Str).length = 0 := rfl
        rw [h3, Nat.mul_zero]
        omega
    have s1 : ("palm p" : Str).length + (Str.ofString (toString ((i : Nat) : Int))).length ≤ 1000000 := by rw [hn1]; exact Nat.le_of_ble_eq_true rfl
    have s2 : (("palm p" : Str) ++ Str.ofString (toString ((i : Nat) : Int))).length + (" 9 0 5 " : Str).length ≤ 1000000 := by rw [app_len, hn1]; exact Nat.le_of_ble_eq_true rfl
    have s3 : (("palm p" : Str) ++ Str.ofString (toString ((i : Nat) : Int)) ++ (" 9 0 5 " : Str)).length + (sgP y l q).length ≤ 1000000 := by
      rw [app_len, app_len, hn1, show ("palm p" : Str).length = 6 by decide, show (" 9 0 5 " : Str).length = 7 by decide]; omega
    have s4 : (("palm p" : Str) ++ Str.ofString (toString ((i : Nat) : Int)) ++ (" 9 0 5 " : Str) ++ sgP y l q).length + (" 1" : Str).length ≤ 1000000 := by
      rw [app_len, app_len, app_len, hn1, show ("palm p" : Str).length = 6 by decide, show (" 9 0 5 " : Str).length = 7 by decide, show (" 1" : Str).length = 2 by decide]; omega
    refine st_app (d := .str (lineP i (sgP y l q))) (env1 := env16 p x4 (.val (.int l)) (.val (.tup (ps.map .int))) (.own p4 (.lst ((("grove 1 1" : Str) :: (linesP y l ps).take i).map .str))) (.val (.int (i : Nat))) (.val (.int q)) (.val (.str (sgP y l q))) .no .no .no .no .no .no .no .no (.val (.tup [.int y, .int l])))
      (ev_op (ev_op (ev_op (ev_op ev_str (ev_strI (ev_var rfl) (by omega)) (d_addS s1)) ev_str (d_addS s2)) (ev_var rfl) (d_addS s3)) ev_str (d_addS s4)) rfl rfl (by rw [List.length_map, List.length_cons, List.length_take]; omega) ⟨.val (.int (i : Nat)), .val (.int q), .val (.str (sgP y l q)), ?_⟩
    rw [take_snoc hline]
    show _ = env16 _ _ _ _ (.own p4 (.lst ((("grove 1 1" : Str) :: ((linesP y l ps).take i ++ [lineP i (sgP y l q)])).map .str))) _ _ _ _ _ _ _ _ _ _ _ _
    rw [← List.cons_append, List.map_append]
    rfl
  · rintro _ ⟨a, b, c, rfl⟩
    have hdl : (((ps.map D.int).zipIdx).map fun p => D.tup [.int (p.2 : Nat), p.1]).length = (linesP y l ps).length := by simp [linesP]
    rw [hdl, List.take_length]
    show St K _ _ _
    have hjs : ((("grove 1 1" : Str) :: linesP y l ps).map (·.length)).sum + (("grove 1 1" : Str) :: linesP y l ps).length * ("\n" : Str).length ≤ 16777216 := by
      have gen : ∀ L : List Str, (∀ w ∈ L, w.length ≤ 22) → (L.map (·.length)).sum ≤ 22 * L.length := by
        intro L
        induction L with
        | nil => intro _; simp
        | cons w L ih =>
          intro hw
          have a1 := hw w (by simp)
          have a2 := ih fun z hz => hw z (by simp [hz])
          simp only [List.map_cons, List.sum_cons, List.length_cons]; omega
      have h1 := gen (("grove 1 1" : Str) :: linesP y l ps) fun w hw => by
        rcases List.mem_cons.mp hw with rfl | hw
        · decide
        · obtain ⟨⟨q, i⟩, hq, rfl⟩ := List.mem_map.mp hw
          have hi := (List.mem_zipIdx hq).2.1
          have := line_len (i := i) (by simp at hi; omega) (y := y) (p := q) hl
          show (lineP i (sgP y l q)).length ≤ 22
          omega
      have h2 : (("grove 1 1" : Str) :: linesP y l ps).length ≤ 5 := by rw [List.length_cons]; simp [linesP]; omega
      rw [show ("\n" : Str).length = 1 by decide]
      omega
    refine q_tupU (ds := [(gOf y l ps).d C, .lst ((rowsB y l ps).map .int)]) (env1 := env16 p x4 (.val (.int l)) (.val (.tup (ps.map .int))) .no a b c .no .no .no .no .no .no .no .no (.val (.tup [.int y, .int l])))
      (env2 := env16 p x4 (.val (.int l)) (.val (.tup (ps.map .int))) .no a b c (.val ((gOf y l ps).d C)) (.val (.lst ((rowsB y l ps).map .int))) .no .no .no .no .no .no (.val (.tup [.int y, .int l])))
      (ev_tup (ea_cons (ev_grove (ea_cons (ev_join ev_str (ev_give rfl) hjs) ea_nil) htold) (ea_cons (ev_call (ea_cons (ev_var rfl) (ea_cons (ev_var rfl) ea_nil)) (r_rows hL (by omega))) ea_nil)) (Nat.le_of_ble_eq_true rfl)) (by walk_at "gs") rfl ?_
    refine Dl.q (st_for (vs := List.range 40) (env1 := env16 p (tkP (tkP x4 60) 9999) (.val (.int l)) (.val (.tup (ps.map .int))) .no a b c (.val ((gOf y l ps).d C)) (.val (.lst ((rowsB y l ps).map .int))) .no .no .no .no .no .no (.val (.tup [.int y, .int l]))) (ds := ([0, tkV x4 60, 9999, tkV (tkP x4 60) 9999] : List Int).map .int) (Wp := fun _ => True)
      (it_anyT (ev_tup (ea_cons ev_int (ea_cons (ev_cb (ea_cons (ev_take rfl ev_int (o4.mono (by omega)) (by omega)) ea_nil) d_int) (ea_cons ev_int (ea_cons (ev_cb (ea_cons (ev_take rfl ev_int ((tkP_ok o4 (by omega)).mono (by omega)) (by omega)) ea_nil) d_int) ea_nil)))) (Nat.le_of_ble_eq_true rfl)))
      (fun i e => ∃ a b yr, e = env16 p (tkP (tkP x4 60) 9999) (.val (.int l)) (.val (.tup (ps.map .int))) .no a b c (.val ((gOf y l ps).d C)) (.val (.lst ((rowsB y l ps).map .int))) yr .no .no .no .no .no (.val (.tup [.int y, .int l]))) ⟨a, b, .no, rfl⟩ (fun _ _ _ _ => trivial) ?_ ?_)
    · rintro i d _ hdd ⟨a, b, yr, rfl⟩
      rw [List.getElem?_map] at hdd
      obtain ⟨t, ht, rfl⟩ := Option.map_eq_some_iff.mp hdd
      have htb : 0 ≤ t ∧ t ≤ 9999 := by
        have := List.mem_of_getElem? ht
        simp only [List.mem_cons, List.not_mem_nil, or_false] at this
        rcases this with rfl | rfl | rfl | rfl <;> omega
      have hat := rows_at (ps := ps) hL t
      refine ⟨env16 p (tkP (tkP x4 60) 9999) (.val (.int l)) (.val (.tup (ps.map .int))) .no a b c (.val ((gOf y l ps).d C)) (.val (.lst ((rowsB y l ps).map .int))) (.val (.int t)) .no .no .no .no .no (.val (.tup [.int y, .int l])), gd_name (by decide), ?_⟩
      refine q_no (b := decide (bask (gOf y l ps) t ≠ bearB y l ps t) || decide (bearB y l ps t ≠ bearB y l ps t)) (env1 := env16 p (tkP (tkP x4 60) 9999) (.val (.int l)) (.val (.tup (ps.map .int))) .no a b c (.val ((gOf y l ps).d C)) (.val (.lst ((rowsB y l ps).map .int))) (.val (.int t)) .no .no .no .no .no (.val (.tup [.int y, .int l]))) ?_ (by rw [bask_eq hL]; simp) ?_
      · refine et_or (et_test (ev_op (ev_call (ea_cons (ev_var rfl) (ea_cons (ev_var rfl) ea_nil)) (r_baskets hgo htb)) (ev_op (ev_var rfl) (ev_op (ev_var rfl) (ev_var rfl) (d_mod hl)) (d_ixL hat)) d_neI))
          (fun _ => et_test (ev_op (ev_call (ea_cons (ev_var rfl) (ea_cons (ev_var rfl) (ea_cons (ev_var rfl) ea_nil))) (r_bearing hL hpl htb)) (ev_op (ev_var rfl) (ev_op (ev_var rfl) (ev_var rfl) (d_mod hl)) (d_ixL hat)) d_neI))
      refine st_for (vs := List.range 40) (env1 := env16 p (tkP (tkP x4 60) 9999) (.val (.int l)) (.val (.tup (ps.map .int))) .no a b c (.val ((gOf y l ps).d C)) (.val (.lst ((rowsB y l ps).map .int))) (.val (.int t)) .no .no .no .no .no (.val (.tup [.int y, .int l]))) (ds := ((ps.map D.int).zipIdx).map fun p => D.tup [.int (p.2 : Nat), p.1]) (Wp := fun _ => True) (it_en (by walk_at "ea") (Or.inr rfl))
        (fun i e => ∃ a b, e = env16 p (tkP (tkP x4 60) 9999) (.val (.int l)) (.val (.tup (ps.map .int))) .no a b c (.val ((gOf y l ps).d C)) (.val (.lst ((rowsB y l ps).map .int))) (.val (.int t)) .no .no .no .no .no (.val (.tup [.int y, .int l]))) ⟨a, b, rfl⟩ (fun _ _ _ _ => trivial) ?_ ?_
      · rintro j d _ hdd ⟨a, b, rfl⟩
        rw [List.getElem?_map, List.getElem?_zipIdx, List.getElem?_map] at hdd
        have hi : j < ps.length := by
          rcases Nat.lt_or_ge j ps.length with z | z
          · exact z
          · rw [List.getElem?_eq_none z] at hdd; cases hdd
        rw [List.getElem?_eq_getElem hi] at hdd
        simp only [Option.map_some, Nat.zero_add] at hdd
        cases hdd
        have hmem : pmP y l (ps[j], j) ∈ (gOf y l ps).ps := by
          refine List.mem_map.mpr ⟨(ps[j], j), ?_, rfl⟩
          refine List.mem_of_getElem? (i := j) ?_
          rw [List.getElem?_zipIdx, List.getElem?_eq_getElem hi]; simp
        have hq := hpl.2.1 ps[j] (List.getElem_mem hi)
        generalize ps[j] = q at hmem hq
        have hn1 := num_len (i := j) (by omega)
        have s1 : ("p" : Str).length + (Str.ofString (toString ((j : Nat) : Int))).length ≤ 1000000 := by rw [hn1]; exact Nat.le_of_ble_eq_true rfl
        refine ⟨env16 p (tkP (tkP x4 60) 9999) (.val (.int l)) (.val (.tup (ps.map .int))) .no (.val (.int (j : Nat))) (.val (.int q)) c (.val ((gOf y l ps).d C)) (.val (.lst ((rowsB y l ps).map .int))) (.val (.int t)) .no .no .no .no .no (.val (.tup [.int y, .int l])), by walk_at "gd", ?_⟩
        refine st_if (x := decide (bit (sgP y l q) t ≠ decide (bearB y l [q] t = 1))) (env1 := env16 p (tkP (tkP x4 60) 9999) (.val (.int l)) (.val (.tup (ps.map .int))) .no (.val (.int (j : Nat))) (.val (.int q)) c (.val ((gOf y l ps).d C)) (.val (.lst ((rowsB y l ps).map .int))) (.val (.int t)) .no .no .no .no .no (.val (.tup [.int y, .int l]))) ?_ (fun hb => ?_) (fun _ => st_next ⟨.val (.int (j : Nat)), .val (.int q), rfl⟩)
        · exact et_test (ev_op (ev_call (ea_cons (ev_var rfl) (ea_cons (ev_op ev_str (ev_strI (ev_var rfl) (by omega)) (d_addS s1)) (ea_cons (ev_var rfl) ea_nil))) (r_bears hgo hmem htb))
            (ev_op (ev_call (ea_cons (ev_var rfl) (ea_cons (ev_tup (ea_cons (ev_var rfl) ea_nil) (Nat.le_of_ble_eq_true rfl)) (ea_cons (ev_var rfl) ea_nil))) (r_bearing (ps := [q]) hL ⟨by exact Nat.le_of_ble_eq_true rfl, by simp; omega, by simp⟩ htb)) ev_int d_eqI) d_neB)
        · rw [one_agree hL] at hb
          simp at hb
      · rintro _ ⟨a, b, rfl⟩
        exact ⟨a, b, .val (.int t), rfl⟩
    · rintro _ ⟨a, b, yr, rfl⟩
      show St K _ (env16 p (tkP (tkP x4 60) 9999) (.val (.int l)) (.val (.tup (ps.map .int))) .no a b c (.val ((gOf y l ps).d C)) (.val (.lst ((rowsB y l ps).map .int))) yr .no .no .no .no .no (.val (.tup [.int y, .int l]))) _
      have hrn := rowsB_ne (ps := ps) hL
      have hmn := mnL_mem hrn
      have hmx := mxL_mem hrn
      have bR : ∀ z ∈ rowsB y l ps, 0 ≤ z ∧ z ≤ 4 := fun z hz => by
        obtain ⟨t, _, rfl⟩ := List.mem_map.mp hz
        have := bearB_bd (y := y) (l := l) (t := (t : Nat)) (ps := ps)
        omega
      have bS := sum_bd bR
      have bL : (rowsB y l ps).length ≤ 6 := by simp [rowsB]; omega
      have hmn0 := (bR _ hmn).1
      -- least
      refine q_no (b := !decide (mnL (sums (gOf y l ps)) = mnL (rowsB y l ps) ∧ (((sums (gOf y l ps)).idxOf (mnL (sums (gOf y l ps))) : Nat) : Int) = ((rowsB y l ps).idxOf (mnL (rowsB y l ps)) : Nat))) (env1 := env16 p (tkP (tkP x4 60) 9999) (.val (.int l)) (.val (.tup (ps.map .int))) .no a b c (.val ((gOf y l ps).d C)) (.val (.lst ((rowsB y l ps).map .int))) yr .no .no .no .no .no (.val (.tup [.int y, .int l]))) (et_test (ev_op (ev_call (ea_cons (ev_var rfl) ea_nil) (r_least_baskets hgo)) (by walk_at "ev") d_neT2)) (by
        rw [mn_agree hL hl6, mni_agree hL hl6]; simp) ?_
      refine q_no (b := !decide (mnL (rowsB y l ps) = mnL (sums (gOf y l ps)) ∧ (((rowsB y l ps).idxOf (mnL (rowsB y l ps)) : Nat) : Int) = ((sums (gOf y l ps)).idxOf (mnL (sums (gOf y l ps))) : Nat))) (env1 := env16 p (tkP (tkP x4 60) 9999) (.val (.int l)) (.val (.tup (ps.map .int))) .no a b c (.val ((gOf y l ps).d C)) (.val (.lst ((rowsB y l ps).map .int))) yr .no .no .no .no .no (.val (.tup [.int y, .int l]))) (et_test (ev_op (ev_call (ea_cons (ev_var rfl) (ea_cons (ev_var rfl) ea_nil)) (r_least_bearing hL hpl)) (ev_call (ea_cons (ev_var rfl) ea_nil) (r_least_baskets hgo)) d_neT2)) (by
        rw [mn_agree hL hl6, mni_agree hL hl6]; simp) ?_
      -- most
      refine q_no (b := !decide (mxL (sums (gOf y l ps)) = mxL (rowsB y l ps) ∧ (((sums (gOf y l ps)).idxOf (mxL (sums (gOf y l ps))) : Nat) : Int) = ((rowsB y l ps).idxOf (mxL (rowsB y l ps)) : Nat)) || !decide (mxL (rowsB y l ps) = mxL (sums (gOf y l ps)) ∧ (((rowsB y l ps).idxOf (mxL (rowsB y l ps)) : Nat) : Int) = ((sums (gOf y l ps)).idxOf (mxL (sums (gOf y l ps))) : Nat))) (env1 := env16 p (tkP (tkP x4 60) 9999) (.val (.int l)) (.val (.tup (ps.map .int))) .no a b c (.val ((gOf y l ps).d C)) (.val (.lst ((rowsB y l ps).map .int))) yr .no .no .no .no .no (.val (.tup [.int y, .int l])))
        (et_or (et_test (ev_op (ev_call (ea_cons (ev_var rfl) ea_nil) (r_most_baskets hgo)) (by walk_at "ev") d_neT2)) (fun _ => et_test (ev_op (ev_call (ea_cons (ev_var rfl) (ea_cons (ev_var rfl) ea_nil)) (r_most_bearing hL hpl)) (ev_call (ea_cons (ev_var rfl) ea_nil) (r_most_baskets hgo)) d_neT2))) (by
        rw [mx_agree hL hl6, mxi_agree hL hl6]; simp) ?_
      -- mean
      refine q_tupU (ds := [.int ((sums (gOf y l ps)).sum / (Int.gcd (sums (gOf y l ps)).sum 60 : Nat)), .int (60 / (Int.gcd (sums (gOf y l ps)).sum 60 : Nat))]) (env1 := env16 p (tkP (tkP x4 60) 9999) (.val (.int l)) (.val (.tup (ps.map .int))) .no a b c (.val ((gOf y l ps).d C)) (.val (.lst ((rowsB y l ps).map .int))) yr .no .no .no .no .no (.val (.tup [.int y, .int l])))
        (env2 := env16 p (tkP (tkP x4 60) 9999) (.val (.int l)) (.val (.tup (ps.map .int))) .no a b c (.val ((gOf y l ps).d C)) (.val (.lst ((rowsB y l ps).map .int))) yr (.val (.int ((sums (gOf y l ps)).sum / (Int.gcd (sums (gOf y l ps)).sum 60 : Nat)))) (.val (.int (60 / (Int.gcd (sums (gOf y l ps)).sum 60 : Nat)))) .no .no .no (.val (.tup [.int y, .int l]))) (ev_call (ea_cons (ev_var rfl) ea_nil) (r_mean_baskets hgo)) (by walk_at "gs") rfl ?_
      have hSb := sums_bd hgo
      have hSd : 0 ≤ (sums (gOf y l ps)).sum / (Int.gcd (sums (gOf y l ps)).sum 60 : Nat) ∧ (sums (gOf y l ps)).sum / (Int.gcd (sums (gOf y l ps)).sum 60 : Nat) ≤ 1000000000 := ⟨Int.ediv_nonneg hSb.1 (by omega), Int.le_trans (Int.ediv_le_self _ hSb.1) hSb.2⟩
      have hLd : 0 ≤ (60 : Int) / (Int.gcd (sums (gOf y l ps)).sum 60 : Nat) ∧ (60 : Int) / (Int.gcd (sums (gOf y l ps)).sum 60 : Nat) ≤ 60 := ⟨Int.ediv_nonneg (by decide) (by omega), Int.ediv_le_self _ (by decide)⟩
      have k1 := mul_sm (i := (sums (gOf y l ps)).sum / (Int.gcd (sums (gOf y l ps)).sum 60 : Nat)) (j := l) (by unfold Sm; omega) (by unfold Sm; omega)
      have k2 := mul_sm (i := (60 : Int) / (Int.gcd (sums (gOf y l ps)).sum 60 : Nat)) (j := (rowsB y l ps).sum) (by unfold Sm; omega) (by unfold Sm; omega)
      refine q_no (b := decide ((sums (gOf y l ps)).sum / (Int.gcd (sums (gOf y l ps)).sum 60 : Nat) * l ≠ 60 / (Int.gcd (sums (gOf y l ps)).sum 60 : Nat) * (rowsB y l ps).sum)) (env1 := env16 p (tkP (tkP x4 60) 9999) (.val (.int l)) (.val (.tup (ps.map .int))) .no a b c (.val ((gOf y l ps).d C)) (.val (.lst ((rowsB y l ps).map .int))) yr (.val (.int ((sums (gOf y l ps)).sum / (Int.gcd (sums (gOf y l ps)).sum 60 : Nat)))) (.val (.int (60 / (Int.gcd (sums (gOf y l ps)).sum 60 : Nat)))) .no .no .no (.val (.tup [.int y, .int l])))
        (et_test (ev_op (ev_op (ev_var rfl) (ev_var rfl) (d_mul k1)) (ev_op (ev_var rfl) (ev_cb (ea_cons (ev_var rfl) ea_nil) d_sum) (d_mul k2)) d_neI)) (by rw [mean_agree hL hl6]; simp) ?_
      -- names
      have hnm : names (gOf y l ps) = (List.range ps.length).map nmP := by
        apply List.ext_getElem?
        intro i
        simp only [names, gOf, List.getElem?_map, List.getElem?_zipIdx]
        rcases Nat.lt_or_ge i ps.length with z | z
        · rw [List.getElem?_eq_getElem z, List.getElem?_range z]; simp [pmP]
        · rw [List.getElem?_eq_none z, List.getElem?_eq_none (by simpa using z)]; rfl
      refine q_asg (d := .tup ((names (gOf y l ps)).map .str)) (env1 := env16 p (tkP (tkP x4 60) 9999) (.val (.int l)) (.val (.tup (ps.map .int))) .no a b c (.val ((gOf y l ps).d C)) (.val (.lst ((rowsB y l ps).map .int))) yr (.val (.int ((sums (gOf y l ps)).sum / (Int.gcd (sums (gOf y l ps)).sum 60 : Nat)))) (.val (.int (60 / (Int.gcd (sums (gOf y l ps)).sum 60 : Nat)))) .no .no .no (.val (.tup [.int y, .int l]))) ?_ ?_
      · rw [hnm]
        refine ev_cb (ea_cons (ev_fz ?_) ea_nil) d_tupL
        apply en_lc1S (List.range ps.length) (fun i => D.int (i : Nat)) nmP
        · exact it_r1 (n := (ps.length : Nat)) (ea_cons (ev_is (ev_cb (ea_cons (ev_var rfl) ea_nil) d_lenT) (by rw [List.length_map])) ea_nil) (by omega) (by omega)
        · rw [Int.toNat_natCast]
        · trivial
        · rw [List.length_range]; omega
        · intro i hi
          have hi : i < ps.length := by simpa using hi
          have s1 : ("p" : Str).length + (Str.ofString (toString ((i : Nat) : Int))).length ≤ 1000000 := by rw [num_len (by omega)]; exact Nat.le_of_ble_eq_true rfl
          exact ex2 (gd_name (by decide)) (ev_op ev_str (ev_strI (ev_var rfl) (by omega)) (d_addS s1))
      -- years_all
      have hya := years_agree (ps := ps) hL
      refine q_no (b := !decide ((yearsAll (gOf y l ps).ps).map (fun t => ((t : Nat) : Int)) = ((List.range 60).filter fun t => decide (bearB y l ps ((t : Nat) : Int) = (ps.length : Nat))).map fun t => ((t : Nat) : Int))) (env1 := env16 p (tkP (tkP x4 60) 9999) (.val (.int l)) (.val (.tup (ps.map .int))) .no a b c (.val ((gOf y l ps).d C)) (.val (.lst ((rowsB y l ps).map .int))) yr (.val (.int ((sums (gOf y l ps)).sum / (Int.gcd (sums (gOf y l ps)).sum 60 : Nat)))) (.val (.int (60 / (Int.gcd (sums (gOf y l ps)).sum 60 : Nat)))) (.val (.tup ((names (gOf y l ps)).map .str))) .no .no (.val (.tup [.int y, .int l]))) ?_ (by rw [hya]; simp) ?_
      · refine et_test (ev_op (ev_is (ev_call (ea_cons (ev_var rfl) (ea_cons (ev_var rfl) ea_nil)) (r_years_all hgo)) (c := .tup (((yearsAll (gOf y l ps).ps).map fun t => ((t : Nat) : Int)).map .int)) (by rw [List.map_map]; rfl)) (ev_cb (ea_cons (ev_fz ?_) ea_nil) d_tupL) d_neTI)
        apply en_lcI (List.range 60) (fun t => D.int (t : Nat)) (fun t => decide (bearB y l ps ((t : Nat) : Int) = (ps.length : Nat))) (fun t => ((t : Nat) : Int))
        · walk_at "it"
        · rfl
        · trivial
        · decide
        · intro t ht
          have hat := rows_at (ps := ps) hL (t : Nat)
          refine ex3 (gd_name (by decide)) (et_test (ev_op (ev_op (ev_var rfl) (ev_op (ev_var rfl) (ev_var rfl) (d_mod hl)) (d_ixL hat)) (ev_is (ev_cb (ea_cons (ev_var rfl) ea_nil) d_lenT) (by rw [List.length_map])) d_eqI)) (fun _ => ev_var rfl)
      -- some
      refine q_asg (d := .int 1) (env1 := env16 p (tkP (tkP x4 60) 9999) (.val (.int l)) (.val (.tup (ps.map .int))) .no a b c (.val ((gOf y l ps).d C)) (.val (.lst ((rowsB y l ps).map .int))) yr (.val (.int ((sums (gOf y l ps)).sum / (Int.gcd (sums (gOf y l ps)).sum 60 : Nat)))) (.val (.int (60 / (Int.gcd (sums (gOf y l ps)).sum 60 : Nat)))) (.val (.tup ((names (gOf y l ps)).map .str))) .no .no (.val (.tup [.int y, .int l]))) ev_int ?_
      have pb : ∀ n, n ≤ ps.length → 1 ≤ l ^ n ∧ l ^ n ≤ 2176782336 := fun n hn => by
        have := prodL_bd n (lens_bd hgo)
        have h2 := pow6 (n := n) (by omega)
        rw [prod_gOf hL n hn] at this
        omega
      refine Dl.q (st_for (vs := List.range 40) (env1 := env16 p (tkP (tkP x4 60) 9999) (.val (.int l)) (.val (.tup (ps.map .int))) .no a b c (.val ((gOf y l ps).d C)) (.val (.lst ((rowsB y l ps).map .int))) yr (.val (.int ((sums (gOf y l ps)).sum / (Int.gcd (sums (gOf y l ps)).sum 60 : Nat)))) (.val (.int (60 / (Int.gcd (sums (gOf y l ps)).sum 60 : Nat)))) (.val (.tup ((names (gOf y l ps)).map .str))) (.val (.int 1)) .no (.val (.tup [.int y, .int l]))) (ds := ps.map .int) (Wp := fun _ => True) (by walk_at "it") (fun i e => ∃ b, e = env16 p (tkP (tkP x4 60) 9999) (.val (.int l)) (.val (.tup (ps.map .int))) .no a b c (.val ((gOf y l ps).d C)) (.val (.lst ((rowsB y l ps).map .int))) yr (.val (.int ((sums (gOf y l ps)).sum / (Int.gcd (sums (gOf y l ps)).sum 60 : Nat)))) (.val (.int (60 / (Int.gcd (sums (gOf y l ps)).sum 60 : Nat)))) (.val (.tup ((names (gOf y l ps)).map .str))) (.val (.int (l ^ i))) .no (.val (.tup [.int y, .int l]))) ⟨b, by rw [Int.pow_zero]⟩ (fun _ _ _ _ => trivial) ?_ ?_)
      · rintro i d _ hdd ⟨b, rfl⟩
        rw [List.getElem?_map] at hdd
        obtain ⟨q, hq, rfl⟩ := Option.map_eq_some_iff.mp hdd
        have hi : i < ps.length := (List.getElem?_eq_some_iff.mp hq).1
        have hp := pb i (by omega)
        have k3 := mul_sm (i := l ^ i) (j := l) (by unfold Sm; omega) (by unfold Sm; omega)
        refine ⟨env16 p (tkP (tkP x4 60) 9999) (.val (.int l)) (.val (.tup (ps.map .int))) .no a (.val (.int q)) c (.val ((gOf y l ps).d C)) (.val (.lst ((rowsB y l ps).map .int))) yr (.val (.int ((sums (gOf y l ps)).sum / (Int.gcd (sums (gOf y l ps)).sum 60 : Nat)))) (.val (.int (60 / (Int.gcd (sums (gOf y l ps)).sum 60 : Nat)))) (.val (.tup ((names (gOf y l ps)).map .str))) (.val (.int (l ^ i))) .no (.val (.tup [.int y, .int l])), gd_name (by decide), ?_⟩
        refine st_asg (d := .int (l ^ i * l)) (env1 := env16 p (tkP (tkP x4 60) 9999) (.val (.int l)) (.val (.tup (ps.map .int))) .no a (.val (.int q)) c (.val ((gOf y l ps).d C)) (.val (.lst ((rowsB y l ps).map .int))) yr (.val (.int ((sums (gOf y l ps)).sum / (Int.gcd (sums (gOf y l ps)).sum 60 : Nat)))) (.val (.int (60 / (Int.gcd (sums (gOf y l ps)).sum 60 : Nat)))) (.val (.tup ((names (gOf y l ps)).map .str))) (.val (.int (l ^ i))) .no (.val (.tup [.int y, .int l]))) (ev_op (ev_var rfl) (ev_var rfl) (d_mul k3)) ⟨.val (.int q), ?_⟩
        rw [Int.pow_succ]; rfl
      · rintro _ ⟨b, rfl⟩
        rw [List.length_map]
        show St K _ (env16 p (tkP (tkP x4 60) 9999) (.val (.int l)) (.val (.tup (ps.map .int))) .no a b c (.val ((gOf y l ps).d C)) (.val (.lst ((rowsB y l ps).map .int))) yr (.val (.int ((sums (gOf y l ps)).sum / (Int.gcd (sums (gOf y l ps)).sum 60 : Nat)))) (.val (.int (60 / (Int.gcd (sums (gOf y l ps)).sum 60 : Nat)))) (.val (.tup ((names (gOf y l ps)).map .str))) (.val (.int (l ^ ps.length))) .no (.val (.tup [.int y, .int l]))) _
        obtain ⟨bb, eb, hb⟩ := evenest_agree (ps := ps) hL hl6 (by omega)
        have hpr : prodL (lens (gOf y l ps)) = l ^ ps.length := by
          have := prod_gOf (ps := ps) hL ps.length (Nat.le_refl _)
          rwa [List.take_of_length_le (by rw [lens_gOf hL, List.length_map]; omega)] at this
        have hnn : 1 ≤ ((ps.length : Nat) : Int) ∧ ((ps.length : Nat) : Int) ≤ 60 := by omega
        have bp : Ev K (tOp (uIx K) (tCall (spD K R_best_plants) [] E0 (tCons (tVar 2) (tCons (tCB (uLen K) (tCons (tVar 3) tNil)) tNil))) (tC (.int 0))) (env16 p (tkP (tkP x4 60) 9999) (.val (.int l)) (.val (.tup (ps.map .int))) .no a b c (.val ((gOf y l ps).d C)) (.val (.lst ((rowsB y l ps).map .int))) yr (.val (.int ((sums (gOf y l ps)).sum / (Int.gcd (sums (gOf y l ps)).sum 60 : Nat)))) (.val (.int (60 / (Int.gcd (sums (gOf y l ps)).sum 60 : Nat)))) (.val (.tup ((names (gOf y l ps)).map .str))) (.val (.int (l ^ ps.length))) .no (.val (.tup [.int y, .int l]))) (.int ((ps.length : Nat) * (l - y) / l)) (env16 p (tkP (tkP x4 60) 9999) (.val (.int l)) (.val (.tup (ps.map .int))) .no a b c (.val ((gOf y l ps).d C)) (.val (.lst ((rowsB y l ps).map .int))) yr (.val (.int ((sums (gOf y l ps)).sum / (Int.gcd (sums (gOf y l ps)).sum 60 : Nat)))) (.val (.int (60 / (Int.gcd (sums (gOf y l ps)).sum 60 : Nat)))) (.val (.tup ((names (gOf y l ps)).map .str))) (.val (.int (l ^ ps.length))) .no (.val (.tup [.int y, .int l]))) :=
          ev_op (ev_call (ea_cons (ev_var rfl) (ea_cons (ev_is (ev_cb (ea_cons (ev_var rfl) ea_nil) d_lenT) (c := .int (ps.length : Nat)) (by rw [List.length_map])) ea_nil)) (r_best_plants hL hnn)) ev_int (d_ixT rfl)
        refine q_no (b := decide (l ^ ps.length ≤ 1000) && decide (bb.1 ≠ (ps.length : Nat) * (l - y) / l)) (env1 := env16 p (tkP (tkP x4 60) 9999) (.val (.int l)) (.val (.tup (ps.map .int))) .no a b c (.val ((gOf y l ps).d C)) (.val (.lst ((rowsB y l ps).map .int))) yr (.val (.int ((sums (gOf y l ps)).sum / (Int.gcd (sums (gOf y l ps)).sum 60 : Nat)))) (.val (.int (60 / (Int.gcd (sums (gOf y l ps)).sum 60 : Nat)))) (.val (.tup ((names (gOf y l ps)).map .str))) (.val (.int (l ^ ps.length))) .no (.val (.tup [.int y, .int l]))) (et_and (et_test (ev_op (ev_var rfl) ev_int d_le)) (fun hle => et_test (ev_op (ev_op (ev_is (ev_call (ea_cons (ev_var rfl) ea_nil) (r_evenest hgo (by rw [hpr]; exact of_decide_eq_true hle))) (c := .tup [.int bb.1, rowD bb.2]) (by rw [eb]; rfl)) ev_int (d_ixT rfl)) bp d_neI))) (by rw [hb]; simp) ?_
        refine st_ret (d := .bl (decide (mnL (rowsB y l ps) ≤ (ps.length : Nat) * (l - y) / l))) (ev_op bp (ev_cb (ea_cons (ev_var rfl) ea_nil) (d_min hrn)) d_ge) ⟨?_, rfl⟩
        rw [decide_eq_true (best_ge hL hl6)]
end K83

set_option Elab.async false
set_option linter.all false
set_option maxRecDepth 100000
set_option maxHeartbeats 1000000
set_option autoImplicit false
namespace K83
open PySem L2 Dl StX
open Evl (Ex fresh_back ex_rd)
variable {K : PySem.W.Frag}
local macro_rules | `(tactic| walk_at "side") => `(tactic| focus (first | assumption | rfl | exact Nat.le_of_ble_eq_true rfl | omega | decide | (simp; done) | (simp; omega)))
local macro_rules | `(tactic| walk_at "ix") => `(tactic| first | rfl | assumption | exact atI_nat (by focus (first | rfl | assumption | (simp; done))))
local macro_rules | `(tactic| walk_at "log") => `(tactic| first | assumption | exact mul_sm (by unfold Sm; omega) (by unfold Sm; omega) | exact log_sm2 (by unfold Sm; omega) | exact log_sm (by unfold Sm; omega) | decide)
local macro_rules | `(tactic| walk_at "R") => `(tactic| fail "no R")
local macro_rules | `(tactic| walk_at "r2") => `(tactic| first
  | exact d_add | exact d_sub | exact d_lt | exact d_le | exact d_gt | exact d_ge | exact d_eqI | exact d_neI | exact d_eqS | exact d_neS | exact d_eqB | exact d_neB
  | exact d_eqT2 | exact d_neT2 | exact d_eqTI | exact d_neTI | exact d_eqLI | exact d_neLI | (apply d_eqTS; assumption; assumption)
  | exact d_isN | exact d_ntN | exact d_isB | exact d_ntB
  | (apply d_mod; walk_at "side") | (apply d_div; walk_at "side"; walk_at "log") | (apply d_mul; walk_at "log") | (apply d_pow; walk_at "side"; walk_at "log")
  | exact d_inS | exact d_niS | exact d_inST | exact d_niST | exact d_inG | exact d_niG
  | (apply d_ixL; walk_at "ix") | (apply d_ixT; walk_at "ix") | (apply d_ixR; walk_at "ix") | (apply d_ixS; walk_at "side"; walk_at "ix") | (apply d_ixDs; walk_at "ix")
  | (apply d_inD; walk_at "side") | (apply d_niD; walk_at "side")
  | (apply d_addS; walk_at "side") | (apply d_addL; walk_at "side") | (apply d_addT; walk_at "side"))
local macro_rules | `(tactic| walk_at "ra") => `(tactic| first
  | exact d_lenL | exact d_lenT | (apply d_lenS; walk_at "side") | exact d_lenR | exact d_lenD | exact d_sum | exact d_all | exact d_any
  | (apply d_max; walk_at "side") | (apply d_min; walk_at "side") | exact d_max2 | exact d_min2 | exact d_abs | exact d_int | exact d_intB
  | (apply d_intS; walk_at "side"; walk_at "side") | (apply d_str; walk_at "log") | exact d_listL | exact d_listT | exact d_listD | exact d_tupL | exact d_sorted
  | (apply d_isiC; assumption)
  | exact d_isiTy (b := true) rfl (by decide +kernel) | exact d_isiTy (b := false) rfl (by decide +kernel))
local macro_rules | `(tactic| walk_at "gs") => `(tactic| first
  | exact gs_nil | (apply gs_cons; walk_at "gd"; walk_at "gs"))
local macro_rules | `(tactic| walk_at "gd") => `(tactic| first
  | exact gd_name (by decide) | (apply gd_tupU; walk_at "gs"; rfl) | (apply gd_lstU; walk_at "gs"; rfl))
local macro_rules | `(tactic| walk_at "ea") => `(tactic| first
  | exact ea_nil | (apply ea_cons; walk_at "ev"; walk_at "ea") | (apply ea_starT; walk_at "ev"; walk_at "ea") | (apply ea_starL; walk_at "ev"; walk_at "ea"))
local macro_rules | `(tactic| walk_at "eo") => `(tactic| first
  | exact eo_none | (apply eo_some; walk_at "ev"))
local macro_rules | `(tactic| walk_at "it") => `(tactic| first
  | (apply it_r1; walk_at "ea"; walk_at "side"; walk_at "side")
  | (apply it_r2; walk_at "ea"; walk_at "side"; walk_at "side"; walk_at "side"; walk_at "side")
  | (apply it_en; walk_at "ea"; first | exact Or.inl rfl | exact Or.inr rfl)
  | (apply it_zp; walk_at "ea"; (first | exact Or.inl rfl | exact Or.inr rfl); (first | exact Or.inl rfl | exact Or.inr rfl))
  | (apply it_anyL; walk_at "ev") | (apply it_anyT; walk_at "ev") | (apply it_anyS; walk_at "ev"))
local macro_rules | `(tactic| walk_at "hds") => `(tactic| first | rfl | exact (List.map_id _).symm)
local macro_rules | `(tactic| walk_at "turn1") => `(tactic| (intro a ha; apply ex2; walk_at "gd"; walk_at "ev"))
local macro_rules | `(tactic| walk_at "turn2") => `(tactic| (intro a ha; apply ex3; walk_at "gd"; walk_at "et"; (intro hb; walk_at "ev")))
local macro_rules | `(tactic| walk_at "lc") => `(tactic| first
  | (apply en_lc1I; walk_at "it"; walk_at "hds"; exact trivial; walk_at "side"; walk_at "turn1")
  | (apply en_lc1B; walk_at "it"; walk_at "hds"; exact trivial; walk_at "side"; walk_at "turn1")
  | (apply en_lc1S; walk_at "it"; walk_at "hds"; exact trivial; walk_at "side"; walk_at "turn1")
  | (apply en_lc1; walk_at "it"; walk_at "hds"; exact trivial; walk_at "side"; walk_at "turn1")
  | (apply en_lcI; walk_at "it"; walk_at "hds"; exact trivial; walk_at "side"; walk_at "turn2")
  | (apply en_lcS; walk_at "it"; walk_at "hds"; exact trivial; walk_at "side"; walk_at "turn2")
  | (apply en_lc; walk_at "it"; walk_at "hds"; exact trivial; walk_at "side"; walk_at "turn2"))
local macro_rules | `(tactic| walk_at "ev") => `(tactic| first
  | exact ev_int | exact ev_str | exact ev_bl | exact ev_non | exact ev_ty | exact ev_adr | exact ev_var rfl
  | (apply ev_op; walk_at "ev"; walk_at "ev"; walk_at "r2")
  | (apply ev_ixW; rfl; walk_at "ev"; rfl; walk_at "ix")
  | (apply ev_un; walk_at "ev"; exact d_uNeg)
  | (apply ev_cb; walk_at "ea"; walk_at "ra")
  | (apply ev_tup; walk_at "ea"; walk_at "side")
  | (apply ev_call; walk_at "ea"; walk_at "R")
  | (apply ev_meth; walk_at "ev"; decide; walk_at "ea"; walk_at "R")
  | (apply ev_prop; walk_at "ev"; walk_at "R")
  | (apply ev_fldS; walk_at "ev"; rfl; assumption; assumption)
  | (apply ev_eqE; walk_at "ev") | (apply ev_neE; walk_at "ev")
  | (apply ev_fz; walk_at "lc")
  | (apply ev_lst; walk_at "ea"; walk_at "side")
  | (apply ev_andV; walk_at "ev"; (intro h1; walk_at "ev"))
  | (apply ev_orV; walk_at "ev"; (intro h1; walk_at "ev"))
  | (apply ev_notV; walk_at "ev")
  | (apply ev_chain; walk_at "ev"; walk_at "ev"; walk_at "r2"; (intro h1; apply And.intro; walk_at "ev"; walk_at "r2"))
  | (apply ev_slL; walk_at "ev"; walk_at "eo"; walk_at "eo")
  | (apply ev_slT; walk_at "ev"; walk_at "eo"; walk_at "eo")
  | (apply ev_slS; walk_at "ev"; walk_at "eo"; walk_at "eo"; walk_at "side")
  | (apply ev_indexI; walk_at "ev"; walk_at "ev"; walk_at "side"))
local macro_rules | `(tactic| walk_at "et") => `(tactic| first
  | (apply et_test; walk_at "ev") | (apply et_B; walk_at "ev") | (apply et_not; walk_at "et")
  | (apply et_and; walk_at "et"; (intro h1; walk_at "et")) | (apply et_or; walk_at "et"; (intro h1; walk_at "et")) | exact et_yes)
local macro_rules | `(tactic| walk_at "nrm") => `(tactic| (try simp only [List.set_cons_succ, List.set_cons_zero]))
local macro_rules | `(tactic| walk_at "asg") => `(tactic| (apply q_asg; walk_at "ev"; walk_at "nrm"))
local macro_rules | `(tactic| walk_at "drop") => `(tactic| (apply q_drop; walk_at "ev"))
local macro_rules | `(tactic| walk_at "tup") => `(tactic| (apply q_tupU; walk_at "ev"; walk_at "gs"; rfl; walk_at "nrm"))
local macro_rules | `(tactic| walk_at "ret") => `(tactic| (apply st_ret; walk_at "ev"))
local macro_rules | `(tactic| walk_at "bf") => `(tactic| focus (first | rfl | (simp; done) | (simp; omega) | (simp [*]; done) | (simp [*]; omega)))
local macro_rules | `(tactic| walk_at "no") => `(tactic| (apply q_no; walk_at "et"; walk_at "bf"))
local macro_rules | `(tactic| walk_at "chk") => `(tactic| (apply st_chk; walk_at "et"; walk_at "bf"; rfl))
local macro_rules | `(tactic| walk_at "unl") => `(tactic| (apply q_lstU; walk_at "ev"; walk_at "gs"; rfl; walk_at "nrm"))
local macro_rules | `(tactic| walk_at "R") => `(tactic| exact r_is_integer)
local macro_rules | `(tactic| walk_at "R") => `(tactic| exact r_is_between)
local macro_rules | `(tactic| walk_at "R") => `(tactic| exact r_is_day)
local macro_rules | `(tactic| walk_at "R") => `(tactic| exact r_check_year (by walk_at "side"))
local macro_rules | `(tactic| walk_at "R") => `(tactic| exact r_check_number (by walk_at "side"))
local macro_rules | `(tactic| walk_at "R") => `(tactic| exact r_check_life (by walk_at "side"))
local macro_rules | `(tactic| walk_at "R") => `(tactic| exact r_are_plants_of (by walk_at "side") (by walk_at "side"))
local macro_rules | `(tactic| walk_at "R") => `(tactic| exact r_check_plants (by walk_at "side") (by walk_at "side"))
local macro_rules | `(tactic| walk_at "R") => `(tactic| exact r_bearing_by (by walk_at "side") (by walk_at "side"))
local macro_rules | `(tactic| walk_at "R") => `(tactic| exact r_bearing (by walk_at "side") (by walk_at "side") (by walk_at "side"))
local macro_rules | `(tactic| walk_at "R") => `(tactic| exact r_bearings_of (by walk_at "side") (by walk_at "side"))
local macro_rules | `(tactic| walk_at "R") => `(tactic| exact r_least_bearing (by walk_at "side") (by walk_at "side"))
local macro_rules | `(tactic| walk_at "R") => `(tactic| exact r_most_bearing (by walk_at "side") (by walk_at "side"))
local macro_rules | `(tactic| walk_at "R") => `(tactic| exact r_even_plants (by walk_at "side") (by walk_at "side"))
local macro_rules | `(tactic| walk_at "R") => `(tactic| exact r_most_always (by walk_at "side") (by walk_at "side"))
local macro_rules | `(tactic| walk_at "R") => `(tactic| exact r_best_plants (by walk_at "side") (by walk_at "side"))
local macro_rules | `(tactic| walk_at "R") => `(tactic| exact r_common (by walk_at "side") (by walk_at "side"))
local macro_rules | `(tactic| walk_at "R") => `(tactic| exact r_reduced (by walk_at "side") (by walk_at "side"))
local macro_rules | `(tactic| walk_at "R") => `(tactic| exact r_is_name (by walk_at "side"))
local macro_rules | `(tactic| walk_at "R") => `(tactic| exact r_read_integer (by walk_at "side"))
local macro_rules | `(tactic| walk_at "R") => `(tactic| exact r_is_pattern (by walk_at "side"))
local macro_rules | `(tactic| walk_at "R") => `(tactic| exact r_palm_in (by walk_at "side"))
local macro_rules | `(tactic| walk_at "R") => `(tactic| exact r_is_new (by walk_at "side") (by walk_at "side") (by walk_at "side") (by walk_at "side") (by walk_at "side"))
local macro_rules | `(tactic| walk_at "R") => `(tactic| exact r_palm_names)
local macro_rules | `(tactic| walk_at "R") => `(tactic| exact r_years_of (by walk_at "side") (by walk_at "side"))
local macro_rules | `(tactic| walk_at "R") => `(tactic| exact r_dates_of (by walk_at "side") (by walk_at "side"))
local macro_rules | `(tactic| walk_at "R") => `(tactic| exact r_check_grove)
local macro_rules | `(tactic| walk_at "R") => `(tactic| exact r_check_palm (by walk_at "side") (by walk_at "side"))
local macro_rules | `(tactic| walk_at "R") => `(tactic| exact r_bears_in (by walk_at "side") (by walk_at "side"))
local macro_rules | `(tactic| walk_at "R") => `(tactic| exact r_bears (by walk_at "side") (by walk_at "side") (by walk_at "side"))
local macro_rules | `(tactic| walk_at "R") => `(tactic| exact r_baskets_in (by walk_at "side"))
local macro_rules | `(tactic| walk_at "R") => `(tactic| exact r_baskets (by walk_at "side") (by walk_at "side"))
local macro_rules | `(tactic| walk_at "R") => `(tactic| exact r_bits_of (by walk_at "side") (by walk_at "side"))
local macro_rules | `(tactic| walk_at "R") => `(tactic| exact r_years_of_lot (by walk_at "side") (by walk_at "side") (by walk_at "side"))
local macro_rules | `(tactic| walk_at "R") => `(tactic| exact r_is_some_lot (by walk_at "side"))
local macro_rules | `(tactic| walk_at "R") => `(tactic| exact r_years_all (by walk_at "side"))
local macro_rules | `(tactic| walk_at "R") => `(tactic| exact r_sums_of (by walk_at "side"))
local macro_rules | `(tactic| walk_at "R") => `(tactic| exact r_most_baskets (by walk_at "side"))
local macro_rules | `(tactic| walk_at "R") => `(tactic| exact r_least_baskets (by walk_at "side"))
local macro_rules | `(tactic| walk_at "R") => `(tactic| exact r_mean_baskets (by walk_at "side"))
local macro_rules | `(tactic| walk_at "R") => `(tactic| exact r_lengths_of (by walk_at "side"))
local macro_rules | `(tactic| walk_at "R") => `(tactic| exact r_shift_count (by walk_at "side"))
local macro_rules | `(tactic| walk_at "R") => `(tactic| exact r_check_shifts_few (by walk_at "side") (by walk_at "side"))
local macro_rules | `(tactic| walk_at "R") => `(tactic| exact r_all_shifts (by walk_at "side") (by walk_at "side"))
local macro_rules | `(tactic| walk_at "R") => `(tactic| exact r_rows_shifted (by walk_at "side"))
local macro_rules | `(tactic| walk_at "R") => `(tactic| exact r_sums_by (by walk_at "side") (by walk_at "side"))
local macro_rules | `(tactic| walk_at "R") => `(tactic| exact r_told_evenest (by walk_at "side") (by walk_at "side"))
local macro_rules | `(tactic| walk_at "R") => `(tactic| exact r_evenest (by walk_at "side") (by walk_at "side"))
local macro_rules | `(tactic| walk_at "R") => `(tactic| exact r_cells)
local macro_rules | `(tactic| walk_at "R") => `(tactic| exact r_rows (by walk_at "side") (by walk_at "side"))
def rtI (x : Pot) : Nat → Pot
  | 0 => x
  | n + 1 => (drawn (rtI x n)).x
theorem rtI_ok {x : Pot} {k : Int} (h : PotOk k x) : ∀ n : Nat, PotOk (k + 9 * n) (rtI x n)
  | 0 => h.mono (by omega)
  | n + 1 => (drawn_pot (rtI_ok h n)).mono (by omega)
theorem r_right {x : Pot} (h : PotOk 900 x) : R_right (.lst x.l) [] (.bl true) (.lst (drawn x).x.l) := ⟨x, h, rfl, rfl, rfl, rfl⟩
def R_law (ds : List D) (d : D) : Prop := ∃ ns : List Int, ds = [.scr ns] ∧ d = .bl true
theorem p_law : ∀ ds d, R_law ds d → St K (t_law K (spD K R_cells) (spN K R_pot) (spO K R_right)) (ds.map Slot.val ++ List.replicate (N_law.length - ds.length) .no) (Ret d) := by
  rintro _ _ ⟨ns, rfl, rfl⟩
  show St K _ [.val (.scr ns), .no, .no, .no] _
  refine Dl.q (st_for (vs := List.range 40) (env1 := [.val (.scr ns), .no, .no, .no]) (ds := (List.range (max 1 (min 2 ((ns.length : Nat) : Int))).toNat).map fun i => D.int (i : Nat)) (Wp := fun _ => True) (it_anyL (ev_call (ea_cons (ev_var rfl) (ea_cons ev_int ea_nil)) r_cells))
    (fun i e => ∃ a b c, e = [.val (.scr ns), a, b, c]) ⟨.no, .no, .no, rfl⟩ (fun _ _ _ _ => trivial) ?_ ?_)
  · rintro i d _ hd ⟨a, b, c, rfl⟩
    have hi : i < (max 1 (min 2 ((ns.length : Nat) : Int))).toNat := by
      have := (List.getElem?_eq_some_iff.mp hd).1
      simpa using this
    rw [List.getElem?_map, List.getElem?_range hi] at hd
    cases hd
    refine ⟨[.val (.scr ns), .val (.int (i : Nat)), b, c], gd_name (by decide), ?_⟩
    refine q_asgN (ds := (potV ns i).l) (env1 := [.val (.scr ns), .val (.int (i : Nat)), b, c]) (en_callN (ea_cons (ev_var rfl) (ea_cons (ev_var rfl) ea_nil)) (r_pot (by omega))) fun p => ?_
    have ok := potV_ok ns i
    generalize potV ns i = x at ok
    have lc := en_lcO (K := K) (te := tCall (spO K R_right) [] E0 (tCons (tVar 2) tNil)) (g := gName 3) (vs := [3]) (List.range 6) (fun i => D.int (i : Nat)) (fun i => .lst (rtI x i).l) (fun _ => .bl true) 2 p
        (env := [.val (.scr ns), .val (.int (i : Nat)), .own p (.lst x.l), c]) (env1 := [.val (.scr ns), .val (.int (i : Nat)), .own p (.lst x.l), c])
        (wi := iRng1 (tCons (tC (.int 6)) tNil)) (it_r1 (n := 6) (ea_cons ev_int ea_nil) (by omega) (by omega)) rfl rfl (by decide) (by decide) (fun j a ha => ⟨_, gd_name (by decide), rfl, ev_callO (o := .lst (rtI x j).l) rfl ea_nil rfl (r_right ((rtI_ok ok j).mono (by
          have h1 := (List.getElem?_eq_some_iff.mp ha).1
          rw [List.length_range] at h1
          omega)))⟩)
    refine st_if (x := !true) (env1 := [.val (.scr ns), .val (.int (i : Nat)), .own p (.lst (rtI x 6).l), c]) (et_not (et_B (ev_is (ev_cb (ea_cons (ev_is (ev_fz lc) (c := .lst ((List.replicate 6 true).map .bl)) (by rfl)) ea_nil) d_all) (by rfl)))) (fun h => nomatch h) (fun _ => st_next ⟨_, _, _, rfl⟩)
  · rintro _ ⟨a, b, c, rfl⟩
    show St K _ _ _
    walk_at "ret"
    rfl
end K83

set_option Elab.async false
set_option linter.all false
set_option maxRecDepth 100000
set_option maxHeartbeats 4000000
set_option autoImplicit false
namespace K83
open PySem L2 Dl StX
theorem mkRdr {K : PySem.W.Frag} {C : Addr} (pg : PySem.W.plainGet K C Str.empty = true) (hd : PySem.W.hasDictIn K C = true) (po : PySem.W.plainOver K C = true) (sa : PySem.W.findIn K (.ref C) "__setattr__" = some (some (.builtin "object.__setattr__"))) (h : PySem.W.findIn K (.ref C) "own_head" = some none) (p : PySem.W.findIn K (.ref C) "own_palms" = some none) (m : PySem.W.findIn K (.ref C) "own_males" = some none) : RdrK K C := ⟨⟨pg, hd, po, sa⟩, h, p, m⟩
theorem mkGK {K : PySem.W.Frag} {C : Addr} (pg : PySem.W.plainGet K C Str.empty = true) (hd : PySem.W.hasDictIn K C = true) (po : PySem.W.plainOver K C = true) (sa : PySem.W.findIn K (.ref C) "__setattr__" = some (some (.builtin "object.__setattr__"))) (ha : PySem.W.findIn K (.ref C) "__class__" = some (some (.builtin "object.__class__"))) (hn : PySem.W.specialIn K (.builtin "object.__class__") "__get__" = some (some (.builtin "getset_descriptor.__get__"))) (htk : PySem.W.takesIn K (.builtin "object.__class__") = some true) (hm : PySem.W.mroIn K C (.type "object") = some true) (t : PySem.W.findIn K (.ref C) "own_text" = some none) (h : PySem.W.findIn K (.ref C) "own_head" = some none) (p : PySem.W.findIn K (.ref C) "own_palms" = some none) (m : PySem.W.findIn K (.ref C) "own_males" = some none) : GK K C := ⟨⟨⟨pg, hd, po, sa⟩, ha, hn, htk, hm, if_pos (beq_self_eq_true _)⟩, t, h, p, m⟩
theorem all_mk {l : PySem.W.OpenLaw} {w : World} {K : PySem.W.Frag} {mg : Str → Option Value} {fa : Addr} {Cr : Addr} {C : Addr} (hfa : mg ("law" : Str) = some (.ref fa)) (T : Tx K mg)
    (cl_GroveReader : ClsAt K mg ("GroveReader" : Str) Cr)
    (rdr : RdrK K Cr)
    (cl_Grove : ClsAt K mg ("Grove" : Str) C)
    (grv : GK K C)
    (d_is_integer : DefAt K mg ("is_integer" : Str) s_is_integer)
    (d_is_name : DefAt K mg ("is_name" : Str) s_is_name)
    (d_read_integer : DefAt K mg ("read_integer" : Str) s_read_integer)
    (d_common : DefAt K mg ("common" : Str) s_common)
    (d_is_pattern : DefAt K mg ("is_pattern" : Str) s_is_pattern)
    (d_GroveReader___init__ : MethAt K Cr ("__init__" : Str) ("GroveReader.__init__" : Str) s_GroveReader___init__)
    (d_Grove_palm_names : MethAt K C ("palm_names" : Str) ("Grove.palm_names" : Str) s_Grove_palm_names)
    (d_Grove_years_of : MethAt K C ("years_of" : Str) ("Grove.years_of" : Str) s_Grove_years_of)
    (d_Grove_dates_of : MethAt K C ("dates_of" : Str) ("Grove.dates_of" : Str) s_Grove_dates_of)
    (d_check_grove : DefAt K mg ("check_grove" : Str) s_check_grove)
    (d_bearing_by : DefAt K mg ("bearing_by" : Str) s_bearing_by)
    (d_sums_by : DefAt K mg ("sums_by" : Str) s_sums_by)
    (d_even_plants : DefAt K mg ("even_plants" : Str) s_even_plants)
    (d_most_always : DefAt K mg ("most_always" : Str) s_most_always)
    (d__law_take : DefAt K mg ("_law_take" : Str) s__law_take)
    (d__law_rows : DefAt K mg ("_law_rows" : Str) s__law_rows)
    (d__law_cells : DefAt K mg ("_law_cells" : Str) s__law_cells)
    (d__law_pot : DefAt K mg ("_law_pot" : Str) s__law_pot)
    (d_is_between : DefAt K mg ("is_between" : Str) s_is_between)
    (d_reduced : DefAt K mg ("reduced" : Str) s_reduced)
    (d_GroveReader_is_new : MethAt K Cr ("is_new" : Str) ("GroveReader.is_new" : Str) s_GroveReader_is_new)
    (d_check_palm : DefAt K mg ("check_palm" : Str) s_check_palm)
    (d_bears_in : DefAt K mg ("bears_in" : Str) s_bears_in)
    (d_bearings_of : DefAt K mg ("bearings_of" : Str) s_bearings_of)
    (d_is_some_lot : DefAt K mg ("is_some_lot" : Str) s_is_some_lot)
    (d_lengths_of : DefAt K mg ("lengths_of" : Str) s_lengths_of)
    (d_GroveReader_takes_head : MethAt K Cr ("takes_head" : Str) ("GroveReader.takes_head" : Str) s_GroveReader_takes_head)
    (d_is_day : DefAt K mg ("is_day" : Str) s_is_day)
    (d_check_year : DefAt K mg ("check_year" : Str) s_check_year)
    (d_baskets_in : DefAt K mg ("baskets_in" : Str) s_baskets_in)
    (d_check_life : DefAt K mg ("check_life" : Str) s_check_life)
    (d_are_plants_of : DefAt K mg ("are_plants_of" : Str) s_are_plants_of)
    (d_bits_of : DefAt K mg ("bits_of" : Str) s_bits_of)
    (d_shift_count : DefAt K mg ("shift_count" : Str) s_shift_count)
    (d_all_shifts : DefAt K mg ("all_shifts" : Str) s_all_shifts)
    (d_rows_shifted : DefAt K mg ("rows_shifted" : Str) s_rows_shifted)
    (d_check_number : DefAt K mg ("check_number" : Str) s_check_number)
    (d_palm_in : DefAt K mg ("palm_in" : Str) s_palm_in)
    (d_male_in : DefAt K mg ("male_in" : Str) s_male_in)
    (d_bears : DefAt K mg ("bears" : Str) s_bears)
    (d_baskets : DefAt K mg ("baskets" : Str) s_baskets)
    (d_check_plants : DefAt K mg ("check_plants" : Str) s_check_plants)
    (d_years_of_lot : DefAt K mg ("years_of_lot" : Str) s_years_of_lot)
    (d_sums_of : DefAt K mg ("sums_of" : Str) s_sums_of)
    (d_check_shifts_few : DefAt K mg ("check_shifts_few" : Str) s_check_shifts_few)
    (d_told_evenest : DefAt K mg ("told_evenest" : Str) s_told_evenest)
    (d_best_plants : DefAt K mg ("best_plants" : Str) s_best_plants)
    (d_GroveReader_takes : MethAt K Cr ("takes" : Str) ("GroveReader.takes" : Str) s_GroveReader_takes)
    (d_bearing : DefAt K mg ("bearing" : Str) s_bearing)
    (d_least_bearing : DefAt K mg ("least_bearing" : Str) s_least_bearing)
    (d_most_bearing : DefAt K mg ("most_bearing" : Str) s_most_bearing)
    (d_years_all : DefAt K mg ("years_all" : Str) s_years_all)
    (d_most_baskets : DefAt K mg ("most_baskets" : Str) s_most_baskets)
    (d_least_baskets : DefAt K mg ("least_baskets" : Str) s_least_baskets)
    (d_mean_baskets : DefAt K mg ("mean_baskets" : Str) s_mean_baskets)
    (d_evenest : DefAt K mg ("evenest" : Str) s_evenest)
    (d_Grove___init__ : MethAt K C ("__init__" : Str) ("Grove.__init__" : Str) s_Grove___init__)
    (d__law_right : DefAt K mg ("_law_right" : Str) s__law_right)
    (d_law : DefAt K mg ("law" : Str) s_law)
    : ∃ fd : FuncData, (∀ (s : Shared) (v : Value), BindsTo s fd ⟨[v], []⟩ [("script", v)]) ∧ ∀ base : Heap, K.In base → base.Ns mainGlobals mg → FnOk l.prog w K mg base CX0 9 fa fd ["script"] (spD K R_law) := by
  have kG := grv
  have kGv : GrvK K C := ⟨kG.i.cl, kG.t, kG.h, kG.p, kG.m⟩
  obtain ⟨f0, fd0, F0, hm0, hk0⟩ := d_law
  rw [hfa] at hm0
  cases hm0
  have FF := F0
  obtain ⟨oc, od, kV, doc, pm, an, cdv, ct, osl, rfl, lk, hcd⟩ := F0.ex
  refine ⟨PySem.W.fnOf "law" "law" (defArgs s_law) (defBody s_law) (defScope s_law) .none kV doc pm an cdv ct, fun s v => .of_eq rfl, fun base _ _ => ?_⟩
  have E_is_integer : Df l.prog w K mg base ("is_integer" : Str) 1 [("value" : Str)] (spD K R_is_integer) := d_is_integer.df (fun {f fd} F => ok_is_integer T  (spD_len (by rintro _ _ ⟨_, rfl, _⟩; rfl)) (body_D (p_is_integer)) F) (fun _ _ _ _ _ _ us hl => match us, hl with | [_], _ => rfl)
  have E_is_name : Df l.prog w K mg base ("is_name" : Str) 1 [("value" : Str)] (spD K R_is_name) := d_is_name.df (fun {f fd} F => ok_is_name T  (spD_len (by rintro _ _ ⟨_, _, rfl, _⟩; rfl)) (body_D (p_is_name)) F) (fun _ _ _ _ _ _ us hl => match us, hl with | [_], _ => rfl)
  have E_read_integer : Df l.prog w K mg base ("read_integer" : Str) 1 [("word" : Str)] (spD K R_read_integer) := d_read_integer.df (fun {f fd} F => ok_read_integer T  (spD_len (by rintro _ _ ⟨_, _, _, rfl, _⟩; rfl)) (body_D (p_read_integer)) F) (fun _ _ _ _ _ _ us hl => match us, hl with | [_], _ => rfl)
  have E_common : Df l.prog w K mg base ("common" : Str) 1 [("one" : Str), ("other" : Str)] (spD K R_common) := d_common.df (fun {f fd} F => ok_common T  (spD_len (by rintro _ _ ⟨_, _, _, _, rfl, _⟩; rfl)) (body_D (p_common)) F) (fun _ _ _ _ _ _ us hl => match us, hl with | [_, _], _ => rfl)
  have E_is_pattern : Df l.prog w K mg base ("is_pattern" : Str) 1 [("word" : Str)] (spD K R_is_pattern) := d_is_pattern.df (fun {f fd} F => ok_is_pattern T  (spD_len (by rintro _ _ ⟨_, _, rfl, _⟩; rfl)) (body_D (p_is_pattern)) F) (fun _ _ _ _ _ _ us hl => match us, hl with | [_], _ => rfl)
  have E_GroveReader___init__ : Di l.prog w K mg base ("GroveReader" : Str) Cr 1 [("self" : Str)] (sp_init K Cr) := d_GroveReader___init__.di cl_GroveReader (fun {f fd} F => ok_GroveReader___init__ T  sp_init_len (p_init rdr) F) (fun _ _ _ _ _ _ us hl => match us, hl with | [_], _ => rfl)
  have E_Grove_palm_names : Dm l.prog w K mg base C ("palm_names" : Str) 1 [("self" : Str)] (spD K (R_palm_names C)) := d_Grove_palm_names.dm cl_Grove.c (fun {f fd} F => ok_Grove_palm_names T  (spD_len (by rintro _ _ ⟨_, rfl, _⟩; rfl)) (body_D (p_palm_names kG)) F) (fun _ _ _ _ _ _ us hl => match us, hl with | [_], _ => rfl)
  have E_Grove_years_of : Dm l.prog w K mg base C ("years_of" : Str) 1 [("self" : Str), ("name" : Str)] (spD K (R_years_of C)) := d_Grove_years_of.dm cl_Grove.c (fun {f fd} F => ok_Grove_years_of T  (spD_len (by rintro _ _ ⟨_, _, _, _, rfl, _⟩; rfl)) (body_D (p_years_of kG)) F) (fun _ _ _ _ _ _ us hl => match us, hl with | [_, _], _ => rfl)
  have E_Grove_dates_of : Dm l.prog w K mg base C ("dates_of" : Str) 1 [("self" : Str), ("name" : Str)] (spD K (R_dates_of C)) := d_Grove_dates_of.dm cl_Grove.c (fun {f fd} F => ok_Grove_dates_of T  (spD_len (by rintro _ _ ⟨_, _, _, _, rfl, _⟩; rfl)) (body_D (p_dates_of kG)) F) (fun _ _ _ _ _ _ us hl => match us, hl with | [_, _], _ => rfl)
  have E_check_grove : Df l.prog w K mg base ("check_grove" : Str) 1 [("grove" : Str)] (spD K (R_check_grove C)) := d_check_grove.df (fun {f fd} F => ok_check_grove T cl_Grove.cst (spD_len (by rintro _ _ ⟨_, rfl, _⟩; rfl)) (body_D (p_check_grove kG)) F) (fun _ _ _ _ _ _ us hl => match us, hl with | [_], _ => rfl)
  have E_bearing_by : Df l.prog w K mg base ("bearing_by" : Str) 1 [("life" : Str), ("plants" : Str), ("year" : Str)] (spD K R_bearing_by) := d_bearing_by.df (fun {f fd} F => ok_bearing_by T  (spD_len (by rintro _ _ ⟨_, _, _, _, _, _, rfl, _⟩; rfl)) (body_D (p_bearing_by)) F) (fun _ _ _ _ _ _ us hl => match us, hl with | [_, _, _], _ => rfl)
  have E_sums_by : Df l.prog w K mg base ("sums_by" : Str) 1 [("rows" : Str), ("shifts" : Str)] (spD K (R_sums_by C)) := d_sums_by.df (fun {f fd} F => ok_sums_by T  (spD_len (by rintro _ _ ⟨_, _, _, _, rfl, _⟩; rfl)) (body_D (p_sums_by (C := C))) F) (fun _ _ _ _ _ _ us hl => match us, hl with | [_, _], _ => rfl)
  have E_even_plants : Df l.prog w K mg base ("even_plants" : Str) 1 [("life" : Str), ("many" : Str)] (spD K R_even_plants) := d_even_plants.df (fun {f fd} F => ok_even_plants T  (spD_len (by rintro _ _ ⟨_, _, _, _, _, rfl, _⟩; rfl)) (body_D (p_even_plants)) F) (fun _ _ _ _ _ _ us hl => match us, hl with | [_, _], _ => rfl)
  have E_most_always : Df l.prog w K mg base ("most_always" : Str) 1 [("life" : Str), ("many" : Str)] (spD K R_most_always) := d_most_always.df (fun {f fd} F => ok_most_always T  (spD_len (by rintro _ _ ⟨_, _, _, _, _, rfl, _⟩; rfl)) (body_D (p_most_always)) F) (fun _ _ _ _ _ _ us hl => match us, hl with | [_, _], _ => rfl)
  have E__law_take : Df l.prog w K mg base ("_law_take" : Str) 1 [("pot" : Str), ("upto" : Str)] (spO K R_take) := d__law_take.df (fun {f fd} F => ok__law_take T  (spO_len (by rintro _ _ _ _ ⟨_, _, _, _, _, rfl, _⟩; rfl)) (body_O (p_take)) F) (fun _ _ _ _ _ _ us hl => match us, hl with | [_, _], _ => rfl)
  have E__law_rows : Df l.prog w K mg base ("_law_rows" : Str) 1 [("life" : Str), ("plants" : Str)] (spD K R_rows) := d__law_rows.df (fun {f fd} F => ok__law_rows T  (spD_len (by rintro _ _ ⟨_, _, _, _, _, rfl, _⟩; rfl)) (body_D (p_rows)) F) (fun _ _ _ _ _ _ us hl => match us, hl with | [_, _], _ => rfl)
  have E__law_cells : Df l.prog w K mg base ("_law_cells" : Str) 1 [("script" : Str), ("upto" : Str)] (spD K R_cells) := d__law_cells.df (fun {f fd} F => ok__law_cells T  (spD_len (by rintro _ _ ⟨_, rfl, _⟩; rfl)) (body_D (p_cells)) F) (fun _ _ _ _ _ _ us hl => match us, hl with | [_, _], _ => rfl)
  have E__law_pot : Df l.prog w K mg base ("_law_pot" : Str) 1 [("script" : Str), ("place" : Str)] (spN K R_pot) := d__law_pot.df (fun {f fd} F => ok__law_pot T  (spN_len (by rintro _ _ ⟨_, _, _, rfl, _⟩; rfl)) p_pot F) (fun _ _ _ _ _ _ us hl => match us, hl with | [_, _], _ => rfl)
  have E_is_between : Df l.prog w K mg base ("is_between" : Str) 2 [("value" : Str), ("least" : Str), ("most" : Str)] (spD K R_is_between) := d_is_between.df (fun {f fd} F => ok_is_between T E_is_integer (spD_len (by rintro _ _ ⟨_, _, _, rfl, _⟩; rfl)) (body_D (p_is_between)) F) (fun _ _ _ _ _ _ us hl => match us, hl with | [_, _, _], _ => rfl)
  have E_reduced : Df l.prog w K mg base ("reduced" : Str) 2 [("top" : Str), ("low" : Str)] (spD K R_reduced) := d_reduced.df (fun {f fd} F => ok_reduced T E_common (spD_len (by rintro _ _ ⟨_, _, _, _, rfl, _⟩; rfl)) (body_D (p_reduced)) F) (fun _ _ _ _ _ _ us hl => match us, hl with | [_, _], _ => rfl)
  have E_GroveReader_is_new : Dm l.prog w K mg base Cr ("is_new" : Str) 2 [("self" : Str), ("name" : Str)] (spD K (R_is_new Cr)) := d_GroveReader_is_new.dm cl_GroveReader.c (fun {f fd} F => ok_GroveReader_is_new T E_is_name (spD_len (by rintro _ _ ⟨_, _, _, _, _, _, _, rfl, _⟩; rfl)) (body_D (p_is_new rdr)) F) (fun _ _ _ _ _ _ us hl => match us, hl with | [_, _], _ => rfl)
  have E_check_palm : Df l.prog w K mg base ("check_palm" : Str) 2 [("grove" : Str), ("palm" : Str)] (spD K (R_check_palm C)) := d_check_palm.df (fun {f fd} F => ok_check_palm T E_check_grove E_Grove_palm_names (spD_len (by rintro _ _ ⟨_, _, _, _, rfl, _⟩; rfl)) (body_D (p_check_palm kG)) F) (fun _ _ _ _ _ _ us hl => match us, hl with | [_, _], _ => rfl)
  have E_bears_in : Df l.prog w K mg base ("bears_in" : Str) 2 [("grove" : Str), ("palm" : Str), ("year" : Str)] (spD K (R_bears_in C)) := d_bears_in.df (fun {f fd} F => ok_bears_in T E_Grove_years_of (spD_len (by rintro _ _ ⟨_, _, _, _, _, rfl, _⟩; rfl)) (body_D (p_bears_in kG)) F) (fun _ _ _ _ _ _ us hl => match us, hl with | [_, _, _], _ => rfl)
  have E_bearings_of : Df l.prog w K mg base ("bearings_of" : Str) 2 [("life" : Str), ("plants" : Str)] (spD K R_bearings_of) := d_bearings_of.df (fun {f fd} F => ok_bearings_of T E_bearing_by (spD_len (by rintro _ _ ⟨_, _, _, _, _, rfl, _⟩; rfl)) (body_D (p_bearings_of)) F) (fun _ _ _ _ _ _ us hl => match us, hl with | [_, _], _ => rfl)
  have E_is_some_lot : Df l.prog w K mg base ("is_some_lot" : Str) 2 [("grove" : Str), ("value" : Str)] (spD K (R_is_some_lot C)) := d_is_some_lot.df (fun {f fd} F => ok_is_some_lot T E_Grove_palm_names (spD_len (by rintro _ _ ⟨_, _, rfl, _⟩; rfl)) (body_D (p_is_some_lot (C := C))) F) (fun _ _ _ _ _ _ us hl => match us, hl with | [_, _], _ => rfl)
  have E_lengths_of : Df l.prog w K mg base ("lengths_of" : Str) 2 [("grove" : Str)] (spD K (R_lengths_of C)) := d_lengths_of.df (fun {f fd} F => ok_lengths_of T E_Grove_palm_names E_Grove_years_of (spD_len (by rintro _ _ ⟨_, _, rfl, _⟩; rfl)) (body_D (p_lengths_of (C := C))) F) (fun _ _ _ _ _ _ us hl => match us, hl with | [_], _ => rfl)
  have E_GroveReader_takes_head : Dm l.prog w K mg base Cr ("takes_head" : Str) 3 [("self" : Str), ("numbers" : Str)] (sp_head K Cr) := d_GroveReader_takes_head.dm cl_GroveReader.c (fun {f fd} F => ok_GroveReader_takes_head T E_is_between sp_head_len (p_head rdr) F) (fun _ _ _ _ _ _ us hl => match us, hl with | [_, _], _ => rfl)
  have E_is_day : Df l.prog w K mg base ("is_day" : Str) 3 [("value" : Str)] (spD K R_is_day) := d_is_day.df (fun {f fd} F => ok_is_day T E_is_between (spD_len (by rintro _ _ ⟨_, rfl, _⟩; rfl)) (body_D (p_is_day)) F) (fun _ _ _ _ _ _ us hl => match us, hl with | [_], _ => rfl)
  have E_check_year : Df l.prog w K mg base ("check_year" : Str) 3 [("year" : Str)] (spD K R_check_year) := d_check_year.df (fun {f fd} F => ok_check_year T E_is_between (spD_len (by rintro _ _ ⟨_, _, rfl, _⟩; rfl)) (body_D (p_check_year)) F) (fun _ _ _ _ _ _ us hl => match us, hl with | [_], _ => rfl)
  have E_baskets_in : Df l.prog w K mg base ("baskets_in" : Str) 3 [("grove" : Str), ("year" : Str)] (spD K (R_baskets_in C)) := d_baskets_in.df (fun {f fd} F => ok_baskets_in T E_Grove_palm_names E_bears_in E_Grove_dates_of (spD_len (by rintro _ _ ⟨_, _, _, rfl, _⟩; rfl)) (body_D (p_baskets_in (C := C))) F) (fun _ _ _ _ _ _ us hl => match us, hl with | [_, _], _ => rfl)
  have E_check_life : Df l.prog w K mg base ("check_life" : Str) 3 [("life" : Str)] (spD K R_check_life) := d_check_life.df (fun {f fd} F => ok_check_life T E_is_between (spD_len (by rintro _ _ ⟨_, _, _, rfl, _⟩; rfl)) (body_D (p_check_life)) F) (fun _ _ _ _ _ _ us hl => match us, hl with | [_], _ => rfl)
  have E_are_plants_of : Df l.prog w K mg base ("are_plants_of" : Str) 3 [("life" : Str), ("value" : Str)] (spD K R_are_plants_of) := d_are_plants_of.df (fun {f fd} F => ok_are_plants_of T E_is_between (spD_len (by rintro _ _ ⟨_, _, _, _, _, rfl, _⟩; rfl)) (body_D (p_are_plants_of)) F) (fun _ _ _ _ _ _ us hl => match us, hl with | [_, _], _ => rfl)
  have E_bits_of : Df l.prog w K mg base ("bits_of" : Str) 3 [("grove" : Str), ("palm" : Str)] (spD K (R_bits_of C)) := d_bits_of.df (fun {f fd} F => ok_bits_of T E_bears_in (spD_len (by rintro _ _ ⟨_, _, _, _, rfl, _⟩; rfl)) (body_D (p_bits_of (C := C))) F) (fun _ _ _ _ _ _ us hl => match us, hl with | [_, _], _ => rfl)
  have E_shift_count : Df l.prog w K mg base ("shift_count" : Str) 3 [("grove" : Str)] (spD K (R_shift_count C)) := d_shift_count.df (fun {f fd} F => ok_shift_count T E_lengths_of (spD_len (by rintro _ _ ⟨_, _, rfl, _⟩; rfl)) (body_D (p_shift_count (C := C))) F) (fun _ _ _ _ _ _ us hl => match us, hl with | [_], _ => rfl)
  have E_all_shifts : Df l.prog w K mg base ("all_shifts" : Str) 3 [("grove" : Str)] (spD K (R_all_shifts C)) := d_all_shifts.df (fun {f fd} F => ok_all_shifts T E_lengths_of (spD_len (by rintro _ _ ⟨_, _, _, rfl, _⟩; rfl)) (body_D (p_all_shifts (C := C))) F) (fun _ _ _ _ _ _ us hl => match us, hl with | [_], _ => rfl)
  have E_rows_shifted : Df l.prog w K mg base ("rows_shifted" : Str) 3 [("grove" : Str)] (spD K (R_rows_shifted C)) := d_rows_shifted.df (fun {f fd} F => ok_rows_shifted T E_lengths_of E_Grove_palm_names E_Grove_dates_of E_Grove_years_of (spD_len (by rintro _ _ ⟨_, _, rfl, _⟩; rfl)) (body_D (p_rows_shifted (C := C))) F) (fun _ _ _ _ _ _ us hl => match us, hl with | [_], _ => rfl)
  have E_check_number : Df l.prog w K mg base ("check_number" : Str) 3 [("number" : Str)] (spD K R_check_number) := d_check_number.df (fun {f fd} F => ok_check_number T E_is_between (spD_len (by rintro _ _ ⟨_, _, rfl, _⟩; rfl)) (body_D (p_check_number)) F) (fun _ _ _ _ _ _ us hl => match us, hl with | [_], _ => rfl)
  have E_palm_in : Df l.prog w K mg base ("palm_in" : Str) 4 [("words" : Str)] (spD K R_palm_in) := d_palm_in.df (fun {f fd} F => ok_palm_in T E_read_integer E_is_between E_is_day E_is_pattern (spD_len (by rintro _ _ ⟨_, _, _, _, _, _, _, rfl, _⟩; rfl)) (body_D (p_palm_in)) F) (fun _ _ _ _ _ _ us hl => match us, hl with | [_], _ => rfl)
  have E_male_in : Df l.prog w K mg base ("male_in" : Str) 4 [("words" : Str)] (spF) := d_male_in.df (fun {f fd} F => ok_male_in T E_read_integer E_is_day E_is_between (fun _ _ _ _ h => h.elim) (fun _ _ _ _ h => h.elim) F) (fun _ _ _ _ _ _ us hl => match us, hl with | [_], _ => rfl)
  have E_bears : Df l.prog w K mg base ("bears" : Str) 4 [("grove" : Str), ("palm" : Str), ("year" : Str)] (spD K (R_bears C)) := d_bears.df (fun {f fd} F => ok_bears T E_check_palm E_check_year E_bears_in (spD_len (by rintro _ _ ⟨_, _, _, _, _, _, rfl, _⟩; rfl)) (body_D (p_bears (C := C))) F) (fun _ _ _ _ _ _ us hl => match us, hl with | [_, _, _], _ => rfl)
  have E_baskets : Df l.prog w K mg base ("baskets" : Str) 4 [("grove" : Str), ("year" : Str)] (spD K (R_baskets C)) := d_baskets.df (fun {f fd} F => ok_baskets T E_check_grove E_check_year E_baskets_in (spD_len (by rintro _ _ ⟨_, _, _, _, rfl, _⟩; rfl)) (body_D (p_baskets (C := C))) F) (fun _ _ _ _ _ _ us hl => match us, hl with | [_, _], _ => rfl)
  have E_check_plants : Df l.prog w K mg base ("check_plants" : Str) 4 [("life" : Str), ("plants" : Str)] (spD K R_check_plants) := d_check_plants.df (fun {f fd} F => ok_check_plants T E_check_life E_are_plants_of (spD_len (by rintro _ _ ⟨_, _, _, _, _, rfl, _⟩; rfl)) (body_D (p_check_plants)) F) (fun _ _ _ _ _ _ us hl => match us, hl with | [_, _], _ => rfl)
  have E_years_of_lot : Df l.prog w K mg base ("years_of_lot" : Str) 4 [("grove" : Str), ("lot" : Str)] (spD K (R_years_of_lot C)) := d_years_of_lot.df (fun {f fd} F => ok_years_of_lot T E_bits_of (spD_len (by rintro _ _ ⟨_, _, _, _, _, rfl, _⟩; rfl)) (body_D (p_years_of_lot (C := C))) F) (fun _ _ _ _ _ _ us hl => match us, hl with | [_, _], _ => rfl)
  have E_sums_of : Df l.prog w K mg base ("sums_of" : Str) 4 [("grove" : Str)] (spD K (R_sums_of C)) := d_sums_of.df (fun {f fd} F => ok_sums_of T E_baskets_in (spD_len (by rintro _ _ ⟨_, _, rfl, _⟩; rfl)) (body_D (p_sums_of (C := C))) F) (fun _ _ _ _ _ _ us hl => match us, hl with | [_], _ => rfl)
  have E_check_shifts_few : Df l.prog w K mg base ("check_shifts_few" : Str) 4 [("grove" : Str)] (spD K (R_check_shifts_few C)) := d_check_shifts_few.df (fun {f fd} F => ok_check_shifts_few T E_check_grove E_shift_count (spD_len (by rintro _ _ ⟨_, _, _, rfl, _⟩; rfl)) (body_D (p_check_shifts_few (C := C))) F) (fun _ _ _ _ _ _ us hl => match us, hl with | [_], _ => rfl)
  have E_told_evenest : Df l.prog w K mg base ("told_evenest" : Str) 4 [("grove" : Str)] (spD K (R_told_evenest C)) := d_told_evenest.df (fun {f fd} F => ok_told_evenest T E_rows_shifted E_all_shifts E_sums_by (spD_len (by rintro _ _ ⟨_, _, _, rfl, _⟩; rfl)) (body_D (p_told_evenest (C := C))) F) (fun _ _ _ _ _ _ us hl => match us, hl with | [_], _ => rfl)
  have E_best_plants : Df l.prog w K mg base ("best_plants" : Str) 4 [("life" : Str), ("many" : Str)] (spD K R_best_plants) := d_best_plants.df (fun {f fd} F => ok_best_plants T E_check_life E_check_number E_even_plants E_most_always (spD_len (by rintro _ _ ⟨_, _, _, _, _, rfl, _⟩; rfl)) (body_D (p_best_plants)) F) (fun _ _ _ _ _ _ us hl => match us, hl with | [_, _], _ => rfl)
  have E_GroveReader_takes : Dm l.prog w K mg base Cr ("takes" : Str) 5 [("self" : Str), ("line" : Str)] (sp_takes K Cr) := d_GroveReader_takes.dm cl_GroveReader.c (fun {f fd} F => ok_GroveReader_takes T E_GroveReader_takes_head E_read_integer E_GroveReader_is_new E_palm_in E_male_in sp_takes_len (p_takes rdr) F) (fun _ _ _ _ _ _ us hl => match us, hl with | [_, _], _ => rfl)
  have E_bearing : Df l.prog w K mg base ("bearing" : Str) 5 [("life" : Str), ("plants" : Str), ("year" : Str)] (spD K R_bearing) := d_bearing.df (fun {f fd} F => ok_bearing T E_check_plants E_check_year E_bearing_by (spD_len (by rintro _ _ ⟨_, _, _, _, _, _, _, rfl, _⟩; rfl)) (body_D (p_bearing)) F) (fun _ _ _ _ _ _ us hl => match us, hl with | [_, _, _], _ => rfl)
  have E_least_bearing : Df l.prog w K mg base ("least_bearing" : Str) 5 [("life" : Str), ("plants" : Str)] (spD K R_least_bearing) := d_least_bearing.df (fun {f fd} F => ok_least_bearing T E_check_plants E_bearings_of (spD_len (by rintro _ _ ⟨_, _, _, _, _, rfl, _⟩; rfl)) (body_D (p_least_bearing)) F) (fun _ _ _ _ _ _ us hl => match us, hl with | [_, _], _ => rfl)
  have E_most_bearing : Df l.prog w K mg base ("most_bearing" : Str) 5 [("life" : Str), ("plants" : Str)] (spD K R_most_bearing) := d_most_bearing.df (fun {f fd} F => ok_most_bearing T E_check_plants E_bearings_of (spD_len (by rintro _ _ ⟨_, _, _, _, _, rfl, _⟩; rfl)) (body_D (p_most_bearing)) F) (fun _ _ _ _ _ _ us hl => match us, hl with | [_, _], _ => rfl)
  have E_years_all : Df l.prog w K mg base ("years_all" : Str) 5 [("grove" : Str), ("lot" : Str)] (spD K (R_years_all C)) := d_years_all.df (fun {f fd} F => ok_years_all T E_check_grove E_is_some_lot E_years_of_lot (spD_len (by rintro _ _ ⟨_, _, rfl, _⟩; rfl)) (body_D (p_years_all (C := C))) F) (fun _ _ _ _ _ _ us hl => match us, hl with | [_, _], _ => rfl)
  have E_most_baskets : Df l.prog w K mg base ("most_baskets" : Str) 5 [("grove" : Str)] (spD K (R_most_baskets C)) := d_most_baskets.df (fun {f fd} F => ok_most_baskets T E_check_grove E_sums_of (spD_len (by rintro _ _ ⟨_, _, rfl, _⟩; rfl)) (body_D (p_most_baskets (C := C))) F) (fun _ _ _ _ _ _ us hl => match us, hl with | [_], _ => rfl)
  have E_least_baskets : Df l.prog w K mg base ("least_baskets" : Str) 5 [("grove" : Str)] (spD K (R_least_baskets C)) := d_least_baskets.df (fun {f fd} F => ok_least_baskets T E_check_grove E_sums_of (spD_len (by rintro _ _ ⟨_, _, rfl, _⟩; rfl)) (body_D (p_least_baskets (C := C))) F) (fun _ _ _ _ _ _ us hl => match us, hl with | [_], _ => rfl)
  have E_mean_baskets : Df l.prog w K mg base ("mean_baskets" : Str) 5 [("grove" : Str)] (spD K (R_mean_baskets C)) := d_mean_baskets.df (fun {f fd} F => ok_mean_baskets T E_check_grove E_reduced E_sums_of (spD_len (by rintro _ _ ⟨_, _, rfl, _⟩; rfl)) (body_D (p_mean_baskets (C := C))) F) (fun _ _ _ _ _ _ us hl => match us, hl with | [_], _ => rfl)
  have E_evenest : Df l.prog w K mg base ("evenest" : Str) 5 [("grove" : Str)] (spD K (R_evenest C)) := d_evenest.df (fun {f fd} F => ok_evenest T E_check_shifts_few E_told_evenest (spD_len (by rintro _ _ ⟨_, _, _, rfl, _⟩; rfl)) (body_D (p_evenest (C := C))) F) (fun _ _ _ _ _ _ us hl => match us, hl with | [_], _ => rfl)
  have E_Grove___init__ : Di l.prog w K mg base ("Grove" : Str) C 6 [("self" : Str), ("text" : Str)] (sp_grove K C) := d_Grove___init__.di cl_Grove (fun {f fd} F => ok_Grove___init__ T E_GroveReader___init__ E_GroveReader_takes sp_grove_len (p_grove (C := C) (Cr := Cr) kGv rdr) F) (fun _ _ _ _ _ _ us hl => match us, hl with | [_, _], _ => rfl)
  have E__law_right : Df l.prog w K mg base ("_law_right" : Str) 8 [("pot" : Str)] (spO K R_right) := d__law_right.df (fun {f fd} F => ok__law_right T E__law_take E__law_rows E_Grove___init__ E_baskets E_bearing E_bears E_least_baskets E_least_bearing E_most_baskets E_most_bearing E_mean_baskets E_years_all E_evenest E_best_plants (spO_len (by rintro _ _ _ _ ⟨_, _, _, rfl, _⟩; rfl)) (body_O p_right) F) (fun _ _ _ _ _ _ us hl => match us, hl with | [_], _ => rfl)
  exact ok_law T E__law_cells E__law_pot E__law_right (spD_len (by rintro _ _ ⟨_, rfl, _⟩; rfl)) (body_D (p_law)) FF
end K83

open PySem PySem.W PyProof.Rows L2 Dl in
set_option maxRecDepth 100000 in
set_option maxHeartbeats 0 in
theorem PySem.Challenge.cw_palmsinturn_k83_whole_years_of_plants_holds : PySem.Challenge.rw_palmsinturn_k83_whole_years_of_plants.Holds := by
  w_on; o_law; k_head; (case hw => w_witness2)
  k_fill
  refine L2.walk_of (l := PySem.Challenge.rw_palmsinturn_k83_whole_years_of_plants) (n := 63) (k := 9) (x := "script") (CX := fun _ => CX0) (sp := fun w => spD _ K83.R_law) rfl (by decide) rfl ⟨rfl, by decide, by decide⟩ (fun w h Y => PySem.W.kIn_of Y) ?F (fun _ H a ns _ _ hS => ⟨H, [.scr ns], .bl true, Evl.Ex.refl _, ⟨_, _, rfl, ⟨a, rfl, hS⟩, rfl⟩, ⟨ns, rfl, rfl⟩, fun v F2 H2 u rv => rv⟩) (fun _ _ _ _ _ z => z)
  case F =>
    intro w mg fa h KX G hmg
    refine' K83.all_mk hmg ?T ?cl_GroveReader ?rdr ?cl_Grove ?grv ?d_is_integer ?d_is_name ?d_read_integer ?d_common ?d_is_pattern ?d_GroveReader___init__ ?d_Grove_palm_names ?d_Grove_years_of ?d_Grove_dates_of ?d_check_grove ?d_bearing_by ?d_sums_by ?d_even_plants ?d_most_always ?d__law_take ?d__law_rows ?d__law_cells ?d__law_pot ?d_is_between ?d_reduced ?d_GroveReader_is_new ?d_check_palm ?d_bears_in ?d_bearings_of ?d_is_some_lot ?d_lengths_of ?d_GroveReader_takes_head ?d_is_day ?d_check_year ?d_baskets_in ?d_check_life ?d_are_plants_of ?d_bits_of ?d_shift_count ?d_all_shifts ?d_rows_shifted ?d_check_number ?d_palm_in ?d_male_in ?d_bears ?d_baskets ?d_check_plants ?d_years_of_lot ?d_sums_of ?d_check_shifts_few ?d_told_evenest ?d_best_plants ?d_GroveReader_takes ?d_bearing ?d_least_bearing ?d_most_bearing ?d_years_all ?d_most_baskets ?d_least_baskets ?d_mean_baskets ?d_evenest ?d_Grove___init__ ?d__law_right ?d_law
    (case cl_GroveReader => refine' Dl.mkCls KX G ?a_cl_GroveReader ?pg_cl_GroveReader ?hd_cl_GroveReader ?po_cl_GroveReader ?sa_cl_GroveReader ?mk_cl_GroveReader ?kc_cl_GroveReader; (case a_cl_GroveReader => k_is); (case pg_cl_GroveReader => k_is); (case hd_cl_GroveReader => k_is); (case po_cl_GroveReader => k_is); (case sa_cl_GroveReader => k_is); (case mk_cl_GroveReader => k_is); (case kc_cl_GroveReader => k_is))
    (case cl_Grove => refine' Dl.mkCls KX G ?a_cl_Grove ?pg_cl_Grove ?hd_cl_Grove ?po_cl_Grove ?sa_cl_Grove ?mk_cl_Grove ?kc_cl_Grove; (case a_cl_Grove => k_is); (case pg_cl_Grove => k_is); (case hd_cl_Grove => k_is); (case po_cl_Grove => k_is); (case sa_cl_Grove => k_is); (case mk_cl_Grove => k_is); (case kc_cl_Grove => k_is))
    case T =>
      refine' { c_FIGURES := ?c_FIGURES, c_GROVE := ?c_GROVE, c_LAST_DAY := ?c_LAST_DAY, c_LAST_YEAR := ?c_LAST_YEAR, c_LETTERS := ?c_LETTERS, c_MALE := ?c_MALE, c_MOST_DATES := ?c_MOST_DATES, c_MOST_EVERY := ?c_MOST_EVERY, c_MOST_HANDS := ?c_MOST_HANDS, c_MOST_KEEP := ?c_MOST_KEEP, c_MOST_LOADS := ?c_MOST_LOADS, c_MOST_LONG := ?c_MOST_LONG, c_MOST_MALES := ?c_MOST_MALES, c_MOST_PALMS := ?c_MOST_PALMS, c_MOST_PLANTS := ?c_MOST_PLANTS, c_MOST_SHIFTS := ?c_MOST_SHIFTS, c_MOST_SIGNS_groves := ?c_MOST_SIGNS_groves, c_MOST_SIGNS_words := ?c_MOST_SIGNS_words, c_MOST_TURNS := ?c_MOST_TURNS, c_PALM := ?c_PALM, c_SIXTY_bearing := ?c_SIXTY_bearing, c_SIXTY_evening := ?c_SIXTY_evening, b_abs := ?b_abs, b_all := ?b_all, b_bool := ?b_bool, b_enumerate := ?b_enumerate, b_int := ?b_int, b_isinstance := ?b_isinstance, b_len := ?b_len, b_list := ?b_list, b_max := ?b_max, b_min := ?b_min, b_range := ?b_range, b_sorted := ?b_sorted, b_str := ?b_str, b_sum := ?b_sum, b_tuple := ?b_tuple, b_zip := ?b_zip }
      (case c_FIGURES => refine' Dl.mkStr KX G ?a_c_FIGURES; (case a_c_FIGURES => k_is))
      (case c_GROVE => refine' Dl.mkStr KX G ?a_c_GROVE; (case a_c_GROVE => k_is))
      (case c_LAST_DAY => refine' Dl.mkInt KX G ?a_c_LAST_DAY; (case a_c_LAST_DAY => k_is))
      (case c_LAST_YEAR => refine' Dl.mkInt KX G ?a_c_LAST_YEAR; (case a_c_LAST_YEAR => k_is))
      (case c_LETTERS => refine' Dl.mkStr KX G ?a_c_LETTERS; (case a_c_LETTERS => k_is))
      (case c_MALE => refine' Dl.mkStr KX G ?a_c_MALE; (case a_c_MALE => k_is))
      (case c_MOST_DATES => refine' Dl.mkInt KX G ?a_c_MOST_DATES; (case a_c_MOST_DATES => k_is))
      (case c_MOST_EVERY => refine' Dl.mkInt KX G ?a_c_MOST_EVERY; (case a_c_MOST_EVERY => k_is))
      (case c_MOST_HANDS => refine' Dl.mkInt KX G ?a_c_MOST_HANDS; (case a_c_MOST_HANDS => k_is))
      (case c_MOST_KEEP => refine' Dl.mkInt KX G ?a_c_MOST_KEEP; (case a_c_MOST_KEEP => k_is))
      (case c_MOST_LOADS => refine' Dl.mkInt KX G ?a_c_MOST_LOADS; (case a_c_MOST_LOADS => k_is))
      (case c_MOST_LONG => refine' Dl.mkInt KX G ?a_c_MOST_LONG; (case a_c_MOST_LONG => k_is))
      (case c_MOST_MALES => refine' Dl.mkInt KX G ?a_c_MOST_MALES; (case a_c_MOST_MALES => k_is))
      (case c_MOST_PALMS => refine' Dl.mkInt KX G ?a_c_MOST_PALMS; (case a_c_MOST_PALMS => k_is))
      (case c_MOST_PLANTS => refine' Dl.mkInt KX G ?a_c_MOST_PLANTS; (case a_c_MOST_PLANTS => k_is))
      (case c_MOST_SHIFTS => refine' Dl.mkInt KX G ?a_c_MOST_SHIFTS; (case a_c_MOST_SHIFTS => k_is))
      (case c_MOST_SIGNS_groves => refine' Dl.mkInt KX G ?a_c_MOST_SIGNS_groves; (case a_c_MOST_SIGNS_groves => k_is))
      (case c_MOST_SIGNS_words => refine' Dl.mkInt KX G ?a_c_MOST_SIGNS_words; (case a_c_MOST_SIGNS_words => k_is))
      (case c_MOST_TURNS => refine' Dl.mkInt KX G ?a_c_MOST_TURNS; (case a_c_MOST_TURNS => k_is))
      (case c_PALM => refine' Dl.mkStr KX G ?a_c_PALM; (case a_c_PALM => k_is))
      (case c_SIXTY_bearing => refine' Dl.mkInt KX G ?a_c_SIXTY_bearing; (case a_c_SIXTY_bearing => k_is))
      (case c_SIXTY_evening => refine' Dl.mkInt KX G ?a_c_SIXTY_evening; (case a_c_SIXTY_evening => k_is))
      (case b_abs => refine' Dl.mkNo KX G ?a_b_abs; (case a_b_abs => k_is))
      (case b_all => refine' Dl.mkNo KX G ?a_b_all; (case a_b_all => k_is))
      (case b_bool => refine' Dl.mkNo KX G ?a_b_bool; (case a_b_bool => k_is))
      (case b_enumerate => refine' Dl.mkNo KX G ?a_b_enumerate; (case a_b_enumerate => k_is))
      (case b_int => refine' Dl.mkNo KX G ?a_b_int; (case a_b_int => k_is))
      (case b_isinstance => refine' Dl.mkNo KX G ?a_b_isinstance; (case a_b_isinstance => k_is))
      (case b_len => refine' Dl.mkNo KX G ?a_b_len; (case a_b_len => k_is))
      (case b_list => refine' Dl.mkNo KX G ?a_b_list; (case a_b_list => k_is))
      (case b_max => refine' Dl.mkNo KX G ?a_b_max; (case a_b_max => k_is))
      (case b_min => refine' Dl.mkNo KX G ?a_b_min; (case a_b_min => k_is))
      (case b_range => refine' Dl.mkNo KX G ?a_b_range; (case a_b_range => k_is))
      (case b_sorted => refine' Dl.mkNo KX G ?a_b_sorted; (case a_b_sorted => k_is))
      (case b_str => refine' Dl.mkNo KX G ?a_b_str; (case a_b_str => k_is))
      (case b_sum => refine' Dl.mkNo KX G ?a_b_sum; (case a_b_sum => k_is))
      (case b_tuple => refine' Dl.mkNo KX G ?a_b_tuple; (case a_b_tuple => k_is))
      (case b_zip => refine' Dl.mkNo KX G ?a_b_zip; (case a_b_zip => k_is))
    (case rdr => refine' K83.mkRdr ?pg_rdr ?hd_rdr ?po_rdr ?sa_rdr ?h_rdr ?p_rdr ?m_rdr; (case pg_rdr => k_is); (case hd_rdr => k_is); (case po_rdr => k_is); (case sa_rdr => k_is); (case h_rdr => k_is); (case p_rdr => k_is); (case m_rdr => k_is))
    (case grv => refine' K83.mkGK ?pg_grv ?hd_grv ?po_grv ?sa_grv ?ha_grv ?hn_grv ?htk_grv ?hm_grv ?t_grv ?h_grv ?p_grv ?m_grv; (case pg_grv => k_is); (case hd_grv => k_is); (case po_grv => k_is); (case sa_grv => k_is); (case ha_grv => k_is); (case hn_grv => k_is); (case htk_grv => k_is); (case hm_grv => k_is); (case t_grv => k_is); (case h_grv => k_is); (case p_grv => k_is); (case m_grv => k_is))
    (case d_is_integer => refine' Dl.mkDef KX G ?a_d_is_integer ?l_d_is_integer ?c_d_is_integer ?k_d_is_integer; (case a_d_is_integer => k_is); (case l_d_is_integer => k_is); (case c_d_is_integer => k_is); (case k_d_is_integer => k_is))
    (case d_is_name => refine' Dl.mkDef KX G ?a_d_is_name ?l_d_is_name ?c_d_is_name ?k_d_is_name; (case a_d_is_name => k_is); (case l_d_is_name => k_is); (case c_d_is_name => k_is); (case k_d_is_name => k_is))
    (case d_read_integer => refine' Dl.mkDef KX G ?a_d_read_integer ?l_d_read_integer ?c_d_read_integer ?k_d_read_integer; (case a_d_read_integer => k_is); (case l_d_read_integer => k_is); (case c_d_read_integer => k_is); (case k_d_read_integer => k_is))
    (case d_common => refine' Dl.mkDef KX G ?a_d_common ?l_d_common ?c_d_common ?k_d_common; (case a_d_common => k_is); (case l_d_common => k_is); (case c_d_common => k_is); (case k_d_common => k_is))
    (case d_is_pattern => refine' Dl.mkDef KX G ?a_d_is_pattern ?l_d_is_pattern ?c_d_is_pattern ?k_d_is_pattern; (case a_d_is_pattern => k_is); (case l_d_is_pattern => k_is); (case c_d_is_pattern => k_is); (case k_d_is_pattern => k_is))
    (case d_GroveReader___init__ => refine' Dl.mkMeth ?a_d_GroveReader___init__ ?i_d_GroveReader___init__ ?l_d_GroveReader___init__ ?c_d_GroveReader___init__ ?k_d_GroveReader___init__; (case a_d_GroveReader___init__ => k_is); (case i_d_GroveReader___init__ => k_is); (case l_d_GroveReader___init__ => k_is); (case c_d_GroveReader___init__ => k_is); (case k_d_GroveReader___init__ => k_is))
    (case d_Grove_palm_names => refine' Dl.mkMeth ?a_d_Grove_palm_names ?i_d_Grove_palm_names ?l_d_Grove_palm_names ?c_d_Grove_palm_names ?k_d_Grove_palm_names; (case a_d_Grove_palm_names => k_is); (case i_d_Grove_palm_names => k_is); (case l_d_Grove_palm_names => k_is); (case c_d_Grove_palm_names => k_is); (case k_d_Grove_palm_names => k_is))
    (case d_Grove_years_of => refine' Dl.mkMeth ?a_d_Grove_years_of ?i_d_Grove_years_of ?l_d_Grove_years_of ?c_d_Grove_years_of ?k_d_Grove_years_of; (case a_d_Grove_years_of => k_is); (case i_d_Grove_years_of => k_is); (case l_d_Grove_years_of => k_is); (case c_d_Grove_years_of => k_is); (case k_d_Grove_years_of => k_is))
    (case d_Grove_dates_of => refine' Dl.mkMeth ?a_d_Grove_dates_of ?i_d_Grove_dates_of ?l_d_Grove_dates_of ?c_d_Grove_dates_of ?k_d_Grove_dates_of; (case a_d_Grove_dates_of => k_is); (case i_d_Grove_dates_of => k_is); (case l_d_Grove_dates_of => k_is); (case c_d_Grove_dates_of => k_is); (case k_d_Grove_dates_of => k_is))
    (case d_check_grove => refine' Dl.mkDef KX G ?a_d_check_grove ?l_d_check_grove ?c_d_check_grove ?k_d_check_grove; (case a_d_check_grove => k_is); (case l_d_check_grove => k_is); (case c_d_check_grove => k_is); (case k_d_check_grove => k_is))
    (case d_bearing_by => refine' Dl.mkDef KX G ?a_d_bearing_by ?l_d_bearing_by ?c_d_bearing_by ?k_d_bearing_by; (case a_d_bearing_by => k_is); (case l_d_bearing_by => k_is); (case c_d_bearing_by => k_is); (case k_d_bearing_by => k_is))
    (case d_sums_by => refine' Dl.mkDef KX G ?a_d_sums_by ?l_d_sums_by ?c_d_sums_by ?k_d_sums_by; (case a_d_sums_by => k_is); (case l_d_sums_by => k_is); (case c_d_sums_by => k_is); (case k_d_sums_by => k_is))
    (case d_even_plants => refine' Dl.mkDef KX G ?a_d_even_plants ?l_d_even_plants ?c_d_even_plants ?k_d_even_plants; (case a_d_even_plants => k_is); (case l_d_even_plants => k_is); (case c_d_even_plants => k_is); (case k_d_even_plants => k_is))
    (case d_most_always => refine' Dl.mkDef KX G ?a_d_most_always ?l_d_most_always ?c_d_most_always ?k_d_most_always; (case a_d_most_always => k_is); (case l_d_most_always => k_is); (case c_d_most_always => k_is); (case k_d_most_always => k_is))
    (case d__law_take => refine' Dl.mkDef KX G ?a_d__law_take ?l_d__law_take ?c_d__law_take ?k_d__law_take; (case a_d__law_take => k_is); (case l_d__law_take => k_is); (case c_d__law_take => k_is); (case k_d__law_take => k_is))
    (case d__law_rows => refine' Dl.mkDef KX G ?a_d__law_rows ?l_d__law_rows ?c_d__law_rows ?k_d__law_rows; (case a_d__law_rows => k_is); (case l_d__law_rows => k_is); (case c_d__law_rows => k_is); (case k_d__law_rows => k_is))
    (case d__law_cells => refine' Dl.mkDef KX G ?a_d__law_cells ?l_d__law_cells ?c_d__law_cells ?k_d__law_cells; (case a_d__law_cells => k_is); (case l_d__law_cells => k_is); (case c_d__law_cells => k_is); (case k_d__law_cells => k_is))
    (case d__law_pot => refine' Dl.mkDef KX G ?a_d__law_pot ?l_d__law_pot ?c_d__law_pot ?k_d__law_pot; (case a_d__law_pot => k_is); (case l_d__law_pot => k_is); (case c_d__law_pot => k_is); (case k_d__law_pot => k_is))
    (case d_is_between => refine' Dl.mkDef KX G ?a_d_is_between ?l_d_is_between ?c_d_is_between ?k_d_is_between; (case a_d_is_between => k_is); (case l_d_is_between => k_is); (case c_d_is_between => k_is); (case k_d_is_between => k_is))
    (case d_reduced => refine' Dl.mkDef KX G ?a_d_reduced ?l_d_reduced ?c_d_reduced ?k_d_reduced; (case a_d_reduced => k_is); (case l_d_reduced => k_is); (case c_d_reduced => k_is); (case k_d_reduced => k_is))
    (case d_GroveReader_is_new => refine' Dl.mkMeth ?a_d_GroveReader_is_new ?i_d_GroveReader_is_new ?l_d_GroveReader_is_new ?c_d_GroveReader_is_new ?k_d_GroveReader_is_new; (case a_d_GroveReader_is_new => k_is); (case i_d_GroveReader_is_new => k_is); (case l_d_GroveReader_is_new => k_is); (case c_d_GroveReader_is_new => k_is); (case k_d_GroveReader_is_new => k_is))
    (case d_check_palm => refine' Dl.mkDef KX G ?a_d_check_palm ?l_d_check_palm ?c_d_check_palm ?k_d_check_palm; (case a_d_check_palm => k_is); (case l_d_check_palm => k_is); (case c_d_check_palm => k_is); (case k_d_check_palm => k_is))
    (case d_bears_in => refine' Dl.mkDef KX G ?a_d_bears_in ?l_d_bears_in ?c_d_bears_in ?k_d_bears_in; (case a_d_bears_in => k_is); (case l_d_bears_in => k_is); (case c_d_bears_in => k_is); (case k_d_bears_in => k_is))
    (case d_bearings_of => refine' Dl.mkDef KX G ?a_d_bearings_of ?l_d_bearings_of ?c_d_bearings_of ?k_d_bearings_of; (case a_d_bearings_of => k_is); (case l_d_bearings_of => k_is); (case c_d_bearings_of => k_is); (case k_d_bearings_of => k_is))
    (case d_is_some_lot => refine' Dl.mkDef KX G ?a_d_is_some_lot ?l_d_is_some_lot ?c_d_is_some_lot ?k_d_is_some_lot; (case a_d_is_some_lot => k_is); (case l_d_is_some_lot => k_is); (case c_d_is_some_lot => k_is); (case k_d_is_some_lot => k_is))
    (case d_lengths_of => refine' Dl.mkDef KX G ?a_d_lengths_of ?l_d_lengths_of ?c_d_lengths_of ?k_d_lengths_of; (case a_d_lengths_of => k_is); (case l_d_lengths_of => k_is); (case c_d_lengths_of => k_is); (case k_d_lengths_of => k_is))
    (case d_GroveReader_takes_head => refine' Dl.mkMeth ?a_d_GroveReader_takes_head ?i_d_GroveReader_takes_head ?l_d_GroveReader_takes_head ?c_d_GroveReader_takes_head ?k_d_GroveReader_takes_head; (case a_d_GroveReader_takes_head => k_is); (case i_d_GroveReader_takes_head => k_is); (case l_d_GroveReader_takes_head => k_is); (case c_d_GroveReader_takes_head => k_is); (case k_d_GroveReader_takes_head => k_is))
    (case d_is_day => refine' Dl.mkDef KX G ?a_d_is_day ?l_d_is_day ?c_d_is_day ?k_d_is_day; (case a_d_is_day => k_is); (case l_d_is_day => k_is); (case c_d_is_day => k_is); (case k_d_is_day => k_is))
    (case d_check_year => refine' Dl.mkDef KX G ?a_d_check_year ?l_d_check_year ?c_d_check_year ?k_d_check_year; (case a_d_check_year => k_is); (case l_d_check_year => k_is); (case c_d_check_year => k_is); (case k_d_check_year => k_is))
    (case d_baskets_in => refine' Dl.mkDef KX G ?a_d_baskets_in ?l_d_baskets_in ?c_d_baskets_in ?k_d_baskets_in; (case a_d_baskets_in => k_is); (case l_d_baskets_in => k_is); (case c_d_baskets_in => k_is); (case k_d_baskets_in => k_is))
    (case d_check_life => refine' Dl.mkDef KX G ?a_d_check_life ?l_d_check_life ?c_d_check_life ?k_d_check_life; (case a_d_check_life => k_is); (case l_d_check_life => k_is); (case c_d_check_life => k_is); (case k_d_check_life => k_is))
    (case d_are_plants_of => refine' Dl.mkDef KX G ?a_d_are_plants_of ?l_d_are_plants_of ?c_d_are_plants_of ?k_d_are_plants_of; (case a_d_are_plants_of => k_is); (case l_d_are_plants_of => k_is); (case c_d_are_plants_of => k_is); (case k_d_are_plants_of => k_is))
    (case d_bits_of => refine' Dl.mkDef KX G ?a_d_bits_of ?l_d_bits_of ?c_d_bits_of ?k_d_bits_of; (case a_d_bits_of => k_is); (case l_d_bits_of => k_is); (case c_d_bits_of => k_is); (case k_d_bits_of => k_is))
    (case d_shift_count => refine' Dl.mkDef KX G ?a_d_shift_count ?l_d_shift_count ?c_d_shift_count ?k_d_shift_count; (case a_d_shift_count => k_is); (case l_d_shift_count => k_is); (case c_d_shift_count => k_is); (case k_d_shift_count => k_is))
    (case d_all_shifts => refine' Dl.mkDef KX G ?a_d_all_shifts ?l_d_all_shifts ?c_d_all_shifts ?k_d_all_shifts; (case a_d_all_shifts => k_is); (case l_d_all_shifts => k_is); (case c_d_all_shifts => k_is); (case k_d_all_shifts => k_is))
    (case d_rows_shifted => refine' Dl.mkDef KX G ?a_d_rows_shifted ?l_d_rows_shifted ?c_d_rows_shifted ?k_d_rows_shifted; (case a_d_rows_shifted => k_is); (case l_d_rows_shifted => k_is); (case c_d_rows_shifted => k_is); (case k_d_rows_shifted => k_is))
    (case d_check_number => refine' Dl.mkDef KX G ?a_d_check_number ?l_d_check_number ?c_d_check_number ?k_d_check_number; (case a_d_check_number => k_is); (case l_d_check_number => k_is); (case c_d_check_number => k_is); (case k_d_check_number => k_is))
    (case d_palm_in => refine' Dl.mkDef KX G ?a_d_palm_in ?l_d_palm_in ?c_d_palm_in ?k_d_palm_in; (case a_d_palm_in => k_is); (case l_d_palm_in => k_is); (case c_d_palm_in => k_is); (case k_d_palm_in => k_is))
    (case d_male_in => refine' Dl.mkDef KX G ?a_d_male_in ?l_d_male_in ?c_d_male_in ?k_d_male_in; (case a_d_male_in => k_is); (case l_d_male_in => k_is); (case c_d_male_in => k_is); (case k_d_male_in => k_is))
    (case d_bears => refine' Dl.mkDef KX G ?a_d_bears ?l_d_bears ?c_d_bears ?k_d_bears; (case a_d_bears => k_is); (case l_d_bears => k_is); (case c_d_bears => k_is); (case k_d_bears => k_is))
    (case d_baskets => refine' Dl.mkDef KX G ?a_d_baskets ?l_d_baskets ?c_d_baskets ?k_d_baskets; (case a_d_baskets => k_is); (case l_d_baskets => k_is); (case c_d_baskets => k_is); (case k_d_baskets => k_is))
    (case d_check_plants => refine' Dl.mkDef KX G ?a_d_check_plants ?l_d_check_plants ?c_d_check_plants ?k_d_check_plants; (case a_d_check_plants => k_is); (case l_d_check_plants => k_is); (case c_d_check_plants => k_is); (case k_d_check_plants => k_is))
    (case d_years_of_lot => refine' Dl.mkDef KX G ?a_d_years_of_lot ?l_d_years_of_lot ?c_d_years_of_lot ?k_d_years_of_lot; (case a_d_years_of_lot => k_is); (case l_d_years_of_lot => k_is); (case c_d_years_of_lot => k_is); (case k_d_years_of_lot => k_is))
    (case d_sums_of => refine' Dl.mkDef KX G ?a_d_sums_of ?l_d_sums_of ?c_d_sums_of ?k_d_sums_of; (case a_d_sums_of => k_is); (case l_d_sums_of => k_is); (case c_d_sums_of => k_is); (case k_d_sums_of => k_is))
    (case d_check_shifts_few => refine' Dl.mkDef KX G ?a_d_check_shifts_few ?l_d_check_shifts_few ?c_d_check_shifts_few ?k_d_check_shifts_few; (case a_d_check_shifts_few => k_is); (case l_d_check_shifts_few => k_is); (case c_d_check_shifts_few => k_is); (case k_d_check_shifts_few => k_is))
    (case d_told_evenest => refine' Dl.mkDef KX G ?a_d_told_evenest ?l_d_told_evenest ?c_d_told_evenest ?k_d_told_evenest; (case a_d_told_evenest => k_is); (case l_d_told_evenest => k_is); (case c_d_told_evenest => k_is); (case k_d_told_evenest => k_is))
    (case d_best_plants => refine' Dl.mkDef KX G ?a_d_best_plants ?l_d_best_plants ?c_d_best_plants ?k_d_best_plants; (case a_d_best_plants => k_is); (case l_d_best_plants => k_is); (case c_d_best_plants => k_is); (case k_d_best_plants => k_is))
    (case d_GroveReader_takes => refine' Dl.mkMeth ?a_d_GroveReader_takes ?i_d_GroveReader_takes ?l_d_GroveReader_takes ?c_d_GroveReader_takes ?k_d_GroveReader_takes; (case a_d_GroveReader_takes => k_is); (case i_d_GroveReader_takes => k_is); (case l_d_GroveReader_takes => k_is); (case c_d_GroveReader_takes => k_is); (case k_d_GroveReader_takes => k_is))
    (case d_bearing => refine' Dl.mkDef KX G ?a_d_bearing ?l_d_bearing ?c_d_bearing ?k_d_bearing; (case a_d_bearing => k_is); (case l_d_bearing => k_is); (case c_d_bearing => k_is); (case k_d_bearing => k_is))
    (case d_least_bearing => refine' Dl.mkDef KX G ?a_d_least_bearing ?l_d_least_bearing ?c_d_least_bearing ?k_d_least_bearing; (case a_d_least_bearing => k_is); (case l_d_least_bearing => k_is); (case c_d_least_bearing => k_is); (case k_d_least_bearing => k_is))
    (case d_most_bearing => refine' Dl.mkDef KX G ?a_d_most_bearing ?l_d_most_bearing ?c_d_most_bearing ?k_d_most_bearing; (case a_d_most_bearing => k_is); (case l_d_most_bearing => k_is); (case c_d_most_bearing => k_is); (case k_d_most_bearing => k_is))
    (case d_years_all => refine' Dl.mkDef KX G ?a_d_years_all ?l_d_years_all ?c_d_years_all ?k_d_years_all; (case a_d_years_all => k_is); (case l_d_years_all => k_is); (case c_d_years_all => k_is); (case k_d_years_all => k_is))
    (case d_most_baskets => refine' Dl.mkDef KX G ?a_d_most_baskets ?l_d_most_baskets ?c_d_most_baskets ?k_d_most_baskets; (case a_d_most_baskets => k_is); (case l_d_most_baskets => k_is); (case c_d_most_baskets => k_is); (case k_d_most_baskets => k_is))
    (case d_least_baskets => refine' Dl.mkDef KX G ?a_d_least_baskets ?l_d_least_baskets ?c_d_least_baskets ?k_d_least_baskets; (case a_d_least_baskets => k_is); (case l_d_least_baskets => k_is); (case c_d_least_baskets => k_is); (case k_d_least_baskets => k_is))
    (case d_mean_baskets => refine' Dl.mkDef KX G ?a_d_mean_baskets ?l_d_mean_baskets ?c_d_mean_baskets ?k_d_mean_baskets; (case a_d_mean_baskets => k_is); (case l_d_mean_baskets => k_is); (case c_d_mean_baskets => k_is); (case k_d_mean_baskets => k_is))
    (case d_evenest => refine' Dl.mkDef KX G ?a_d_evenest ?l_d_evenest ?c_d_evenest ?k_d_evenest; (case a_d_evenest => k_is); (case l_d_evenest => k_is); (case c_d_evenest => k_is); (case k_d_evenest => k_is))
    (case d_Grove___init__ => refine' Dl.mkMeth ?a_d_Grove___init__ ?i_d_Grove___init__ ?l_d_Grove___init__ ?c_d_Grove___init__ ?k_d_Grove___init__; (case a_d_Grove___init__ => k_is); (case i_d_Grove___init__ => k_is); (case l_d_Grove___init__ => k_is); (case c_d_Grove___init__ => k_is); (case k_d_Grove___init__ => k_is))
    (case d__law_right => refine' Dl.mkDef KX G ?a_d__law_right ?l_d__law_right ?c_d__law_right ?k_d__law_right; (case a_d__law_right => k_is); (case l_d__law_right => k_is); (case c_d__law_right => k_is); (case k_d__law_right => k_is))
    (case d_law => refine' Dl.mkDef KX G ?a_d_law ?l_d_law ?c_d_law ?k_d_law; (case a_d_law => k_is); (case l_d_law => k_is); (case c_d_law => k_is); (case k_d_law => k_is))
#print axioms PySem.Challenge.cw_palmsinturn_k83_whole_years_of_plants_holds

import PyProof.Rows.All
import Wide.All
import OpenK.AllK
import Wide.FinOn
import HandS.ForMost
import HandS.Evl
import HandS.Wide
import HandS.TupAny
import HandS.TupMul
import HandS.Style
import HandS.IsInst
import HandS.Small
import HandS.Star
import HandS.Conv
import HandS.Zip
import HandS.Walk
import HandS.SortInts
import HandS.Property
import PyProof.StrOps2
import HandS.RaiseMore
import KE.GoesEnum
import KE.GoesZip
import HandS.TryOnly
import HandS.Ends
import KE.SortKeyHeap
import KE.KSortKey
import PyProof.Rows.CallKwBuiltin
import HandS.CallLocal
import HandS.Codes
import HandS.Iter
import KE.KIntText
import PySem.Challenge.RW_palmsinturn_k92_whole_years_and_plants
set_option Elab.async false
set_option linter.all false
set_option maxRecDepth 100000
set_option maxHeartbeats 4000000
set_option autoImplicit false
/-! Dm: what defs do, told over data (D) and not over heaps. -/
namespace Dm
open PySem L2 Evl

/-- data: what a value stands for -/
inductive D where
  | non | bl (b : Bool) | int (i : Int) | str (x : Str)
  | tup (ds : List D) | lst (ds : List D) | ktup (ds : List D)
  | scr (ns : List Int)
  | obj (C : Addr) (ns : List Str) (ds : List D)
  | dic (ks : List Key) (ds : List D) | dil (ks : List Key) (ds : List D) | rf
  | dit (ks : List (List Key)) (ds : List D)
  | ty (n : String) | adr (a : Addr)

variable {K : PySem.W.Frag}
mutual
def Rep (K : PySem.W.Frag) (H : Hp) : D → V → Prop
  | .non, v => v = .non
  | .bl b, v => v = .bl b
  | .int i, v => v = .int i
  | .str x, v => v = .str x
  | .tup ds, v => ∃ a vs, v = .ref a ∧ H a = some (.tup vs) ∧ RepL K H ds vs
  | .ktup ds, v => ∃ a vs, v = .ref a ∧ SqT K H a vs ∧ RepL K H ds vs
  | .lst ds, v => ∃ a vs, v = .ref a ∧ H a = some (.lst vs) ∧ RepL K H ds vs
  | .scr ns, v => ∃ a, v = .ref a ∧ SqL K H a (ns.map V.int)
  | .obj C ns ds, v => ∃ a dx vs, v = .ref a ∧ H a = some (.ins C dx (ns.zip vs)) ∧ ns.length = vs.length ∧ RepL K H ds vs
  | .dic ks ds, v => ∃ a vs, v = .ref a ∧ H a = some (.dK (ks.zip vs)) ∧ ks.length = vs.length ∧ RepL K H ds vs
  | .dil ks ds, v => ∃ a vs, v = .ref a ∧ (∃ o, H a = some (.frz o (.dK (ks.zip vs)))) ∧ ks.length = vs.length ∧ RepL K H ds vs
  | .rf, v => ∃ a, v = .ref a
  | .dit ks ds, v => ∃ a vs, v = .ref a ∧ H a = some (.dT (ks.zip vs)) ∧ ks.length = vs.length ∧ RepL K H ds vs
  | .ty n, v => v = .ty n
  | .adr a, v => v = .ref a
def RepL (K : PySem.W.Frag) (H : Hp) : List D → List V → Prop
  | [], vs => vs = []
  | d :: ds, vs => ∃ w ws, vs = w :: ws ∧ Rep K H d w ∧ RepL K H ds ws
end

mutual
theorem Rep.mono {H H' : Hp} (e : Ex H H') : ∀ (d : D) (v : V), Rep K H d v → Rep K H' d v
  | .non, _, h => h
  | .bl _, _, h => h
  | .int _, _, h => h
  | .str _, _, h => h
  | .ty _, _, h => h
  | .adr _, _, h => h
  | .scr ns, v, ⟨a, h1, h2⟩ => ⟨a, h1, ex_l e h2⟩
  | .tup ds, v, ⟨a, vs, h1, h2, h3⟩ => ⟨a, vs, h1, e _ _ h2, RepL.mono e ds vs h3⟩
  | .ktup ds, v, ⟨a, vs, h1, h2, h3⟩ => ⟨a, vs, h1, ex_t e h2, RepL.mono e ds vs h3⟩
  | .lst ds, v, ⟨a, vs, h1, h2, h3⟩ => ⟨a, vs, h1, e _ _ h2, RepL.mono e ds vs h3⟩
  | .obj C ns ds, v, ⟨a, dx, vs, h1, h2, h4, h3⟩ => ⟨a, dx, vs, h1, e _ _ h2, h4, RepL.mono e ds vs h3⟩
  | .dic ks ds, v, ⟨a, vs, h1, h2, h4, h3⟩ => ⟨a, vs, h1, e _ _ h2, h4, RepL.mono e ds vs h3⟩
  | .dil ks ds, v, ⟨a, vs, h1, ⟨o, h2⟩, h4, h3⟩ => ⟨a, vs, h1, ⟨o, e _ _ h2⟩, h4, RepL.mono e ds vs h3⟩
  | .rf, _, h => h
  | .dit ks ds, v, ⟨a, vs, h1, h2, h4, h3⟩ => ⟨a, vs, h1, e _ _ h2, h4, RepL.mono e ds vs h3⟩
theorem RepL.mono {H H' : Hp} (e : Ex H H') : ∀ (ds : List D) (vs : List V), RepL K H ds vs → RepL K H' ds vs
  | [], _, h => h
  | d :: ds, vs, ⟨w, ws, h1, h2, h3⟩ => ⟨w, ws, h1, Rep.mono e d w h2, RepL.mono e ds ws h3⟩
end

theorem RepL.len {H : Hp} : ∀ {ds : List D} {vs : List V}, RepL K H ds vs → vs.length = ds.length
  | [], _, h => by rw [show _ = [] from h]; rfl
  | d :: ds, vs, ⟨w, ws, h1, _, h3⟩ => by rw [h1, List.length_cons, List.length_cons, RepL.len h3]
theorem RepL.get {H : Hp} : ∀ {ds : List D} {vs : List V} {i : Nat} {d : D}, RepL K H ds vs → ds[i]? = some d → ∃ v, vs[i]? = some v ∧ Rep K H d v
  | [], _, _, _, _, e => by simp at e
  | d :: ds, vs, 0, d', ⟨w, ws, h1, h2, _⟩, e => by
    have e' : d = d' := by simpa using e
    subst e'; rw [h1]; exact ⟨w, rfl, h2⟩
  | d :: ds, vs, i + 1, d', ⟨w, ws, h1, _, h3⟩, e => by
    rw [h1]
    simpa using RepL.get (i := i) h3 (by simpa using e)
theorem RepL.get' {H : Hp} {ds : List D} {vs : List V} {i : Nat} {v : V} (h : RepL K H ds vs) (e : vs[i]? = some v) : ∃ d, ds[i]? = some d ∧ Rep K H d v := by
  have hi : i < ds.length := by rw [← h.len]; exact (List.getElem?_eq_some_iff.mp e).1
  obtain ⟨w, hw, r⟩ := h.get (List.getElem?_eq_getElem hi)
  rw [e] at hw; cases hw
  exact ⟨_, List.getElem?_eq_getElem hi, r⟩
theorem RepL.append {H : Hp} : ∀ {ds es : List D} {vs ws : List V}, RepL K H ds vs → RepL K H es ws → RepL K H (ds ++ es) (vs ++ ws)
  | [], _, _, _, h, k => by rw [show _ = [] from h]; exact k
  | d :: ds, es, vs, ws, ⟨w, us, h1, h2, h3⟩, k => by rw [h1]; exact ⟨w, us ++ ws, rfl, h2, RepL.append h3 k⟩
theorem RepL.one {H : Hp} {d : D} {v : V} (h : Rep K H d v) : RepL K H [d] [v] := ⟨v, [], rfl, h, rfl⟩
theorem RepL.snoc {H : Hp} {ds : List D} {vs : List V} {d : D} {v : V} (h : RepL K H ds vs) (k : Rep K H d v) : RepL K H (ds ++ [d]) (vs ++ [v]) := h.append (.one k)
theorem RepL.set {H : Hp} : ∀ {ds : List D} {vs : List V} (i : Nat) {d : D} {v : V}, RepL K H ds vs → Rep K H d v → RepL K H (ds.set i d) (vs.set i v)
  | [], _, _, _, _, h, _ => by rw [show _ = [] from h]; rfl
  | d :: ds, vs, 0, d', v', ⟨w, ws, h1, h2, h3⟩, k => by rw [h1]; exact ⟨v', ws, rfl, k, h3⟩
  | d :: ds, vs, i + 1, d', v', ⟨w, ws, h1, h2, h3⟩, k => by rw [h1]; exact ⟨w, ws.set i v', rfl, h2, RepL.set i h3 k⟩
theorem RepL.drop {H : Hp} : ∀ {ds : List D} {vs : List V} (n : Nat), RepL K H ds vs → RepL K H (ds.drop n) (vs.drop n)
  | _, _, 0, h => h
  | [], _, n + 1, h => by rw [show _ = [] from h]; rfl
  | d :: ds, vs, n + 1, ⟨w, ws, h1, h2, h3⟩ => by rw [h1]; exact RepL.drop n h3
theorem RepL.take {H : Hp} : ∀ {ds : List D} {vs : List V} (n : Nat), RepL K H ds vs → RepL K H (ds.take n) (vs.take n)
  | _, _, 0, h => rfl
  | [], _, n + 1, h => by rw [show _ = [] from h]; rfl
  | d :: ds, vs, n + 1, ⟨w, ws, h1, h2, h3⟩ => by rw [h1]; exact ⟨w, ws.take n, rfl, h2, RepL.take n h3⟩
theorem RepL.ints {H : Hp} : ∀ {ns : List Int} {vs : List V}, RepL K H (ns.map D.int) vs → vs = ns.map V.int
  | [], _, h => h
  | n :: ns, vs, ⟨w, ws, h1, h2, h3⟩ => by
    rw [h1, show w = .int n from h2, RepL.ints h3]; rfl
theorem RepL.bls {H : Hp} : ∀ {ns : List Bool} {vs : List V}, RepL K H (ns.map D.bl) vs → vs = ns.map V.bl
  | [], _, h => h
  | n :: ns, vs, ⟨w, ws, h1, h2, h3⟩ => by
    rw [h1, show w = .bl n from h2, RepL.bls h3]; rfl
theorem RepL.strs {H : Hp} : ∀ {ns : List Str} {vs : List V}, RepL K H (ns.map D.str) vs → vs = ns.map V.str
  | [], _, h => h
  | n :: ns, vs, ⟨w, ws, h1, h2, h3⟩ => by
    rw [h1, show w = .str n from h2, RepL.strs h3]; rfl
theorem RepL.of_ints {H : Hp} : ∀ {ns : List Int}, RepL K H (ns.map D.int) (ns.map V.int)
  | [] => rfl
  | n :: ns => ⟨_, _, rfl, rfl, RepL.of_ints⟩
theorem RepL.of_strs {H : Hp} : ∀ {ns : List Str}, RepL K H (ns.map D.str) (ns.map V.str)
  | [] => rfl
  | n :: ns => ⟨_, _, rfl, rfl, RepL.of_strs⟩

/-- a step that lays new things: F, H grow; what was not frozen stays so -/
structure Up (F H F' H' : Hp) : Prop where
  h : Ex H H'
  f : Ex F F'
  fh : Ex F' H'
  no : ∀ p, F p = none → H p ≠ none → F' p = none
structure Gr (B F F' : Hp) : Prop where
  f : Ex F F'
  no : ∀ p, F p = none → B p ≠ none → F' p = none
theorem Gr.refl {B F : Hp} : Gr B F F := ⟨.refl _, fun _ h _ => h⟩
theorem Gr.trans {B F F1 F2 : Hp} (a : Gr B F F1) (b : Gr B F1 F2) : Gr B F F2 := ⟨a.f.trans b.f, fun p h k => b.no p (a.no p h k) k⟩
theorem Up.refl {F H : Hp} (e : Ex F H) : Up F H F H := ⟨.refl _, .refl _, e, fun _ h _ => h⟩
theorem Up.trans {F H F1 H1 F2 H2 : Hp} (a : Up F H F1 H1) (b : Up F1 H1 F2 H2) : Up F H F2 H2 :=
  ⟨a.h.trans b.h, a.f.trans b.f, b.fh, fun p h k => b.no p (a.no p h k) fun z => k (by
    cases e : H p with
    | none => rfl
    | some o => rw [a.h p o e] at z; cases z)⟩
theorem Ex.upd2 {F H : Hp} {p : Addr} {o : HO} (e : Ex F H) : Ex (upd F p o) (upd H p o) := fun a u h => by
  by_cases hp : a = p
  · subst hp; rw [upd_same] at h ⊢; exact h
  · rw [upd_ne hp] at h ⊢; exact e a u h
/-- a new thing, frozen -/
theorem Up.new {F H : Hp} {p : Addr} {o : HO} (e : Ex F H) (h : H p = none) : Up F H (upd F p o) (upd H p o) :=
  ⟨Ex.new h, Ex.new (fresh_back e h), Ex.upd2 e, fun q h1 h2 => by rw [upd_ne (fun z => h2 (by rw [z]; exact h))]; exact h1⟩
/-- a new thing, not frozen -/
theorem Up.heap {F H : Hp} {p : Addr} {o : HO} (e : Ex F H) (h : H p = none) : Up F H F (upd H p o) :=
  ⟨Ex.new h, .refl _, e.trans (Ex.new h), fun _ h1 _ => h1⟩
theorem Gr.of_up {B F H F' H' : Hp} (b : Ex B H) (u : Up F H F' H') : Gr B F F' := ⟨u.f, fun p h k => u.no p h fun z => by
  cases e : B p with
  | none => exact k e
  | some o => rw [b p o e] at z; cases z⟩
/-- rules by values, over data -/
def R2D (K : PySem.W.Frag) (r : R2) (a b c : D) : Prop := ∀ F H x y, Ex F H → Rep K F a x → Rep K F b y → ∀ Q : VK, (∀ z F' H', Up F H F' H' → Rep K F' c z → Q z H') → r x y H Q
def R1D (K : PySem.W.Frag) (r : V → Hp → VK → Prop) (a c : D) : Prop := ∀ F H x, Ex F H → Rep K F a x → ∀ Q : VK, (∀ z F' H', Up F H F' H' → Rep K F' c z → Q z H') → r x H Q
def RAD (K : PySem.W.Frag) (r : List V → Hp → VK → Prop) (as : List D) (c : D) : Prop := ∀ F H vs, Ex F H → RepL K F as vs → ∀ Q : VK, (∀ z F' H', Up F H F' H' → Rep K F' c z → Q z H') → r vs H Q

end Dm

set_option Elab.async false
set_option linter.all false
set_option maxRecDepth 100000
set_option maxHeartbeats 4000000
set_option autoImplicit false
/-! Ru: rules that ask no kind of thing: what stands there says which of the layer's rules is meant. -/
namespace Dm
open PySem L2 Evl PyProof.Rows
section
variable {X : Cx}
theorem OpR.or {f : Value → Value → Sem Value} {r r' : R2} (h : OpR X f r) (h' : OpR X f r') : OpR X f (fun x y H Q => r x y H Q ∨ r' x y H Q) := by
  intro pins s σ H x y v u Q I rx ry q
  rcases q with q | q
  · exact h pins s σ H x y v u Q I rx ry q
  · exact h' pins s σ H x y v u Q I rx ry q
theorem CallR.or {f : Value} {r r' : List V → Hp → VK → Prop} (h : CallR X f r) (h' : CallR X f r') : CallR X f (fun xs H Q => r xs H Q ∨ r' xs H Q) := by
  intro pins s σ H xs us Q I rs q
  rcases q with q | q
  · exact h pins s σ H xs us Q I rs q
  · exact h' pins s σ H xs us Q I rs q
def rStrAdd : R2 := fun x y H Q => ∃ i j, x = .str i ∧ y = .str j ∧ i.length + j.length ≤ sizeLine ∧ Q (.str (i ++ j)) H
/-- + -/
def uAdd (K : PySem.W.Frag) : R2 := fun x y H Q => rI0 (fun i j => .int (i + j)) x y H Q ∨ rStrAdd x y H Q ∨ rCat x y H Q ∨ rCatA K x y H Q
theorem op_uAdd : OpR X (binaryOp .Add) (uAdd X.K) := op_add.or (.or op_add_str (.or op_cat op_catA))
def uSub : R2 := rI0 fun i j => .int (i - j)
theorem op_uSub : OpR X (binaryOp .Sub) uSub := op_sub
def strRep (x : Str) (n : Int) : Str := ⟨(List.replicate n.toNat x.cps).foldl (· ++ ·) #[]⟩
theorem foldl_app : ∀ (l : List (Array Nat)) (a : Array Nat), (l.foldl (· ++ ·) a).toList = a.toList ++ (l.map Array.toList).flatten
  | [], a => by simp
  | b :: l, a => by rw [List.foldl_cons, foldl_app l]; simp
theorem strRep_tl (x : Str) (n : Int) : (strRep x n).cps.toList = (List.replicate n.toNat x.cps.toList).flatten := by
  unfold strRep
  show ((List.replicate n.toNat x.cps).foldl (· ++ ·) #[]).toList = _
  rw [foldl_app, List.map_replicate]; rfl
theorem strRep_len (x : Str) (n : Int) : (strRep x n).length = n.toNat * x.length := by
  show (strRep x n).cps.size = _
  rw [← Array.length_toList, strRep_tl]
  generalize n.toNat = m
  induction m with
  | zero => simp
  | succ m ih => rw [List.replicate_succ, List.flatten_cons, List.length_append, ih, Nat.succ_mul]; show x.cps.toList.length + _ = _; rw [Array.length_toList]; show _ = _ + x.cps.size; omega
theorem str_ext {x y : Str} (h : x.cps.toList = y.cps.toList) : x = y := by
  cases x; cases y; congr 1; exact Array.toList_inj.mp h
def rRepS : R2 := fun x y H Q => ∃ (a : Str) (k : Int), x = .str a ∧ y = .int k ∧ -1000 ≤ k ∧ k ≤ 1000 ∧ a.length ≤ 1000 ∧ Q (.str (strRep a k)) H
theorem op_repS : OpR X (binaryOp .Mult) rRepS := by
  intro pins s σ H x y v u Q I rx ry h
  obtain ⟨a, k, rfl, rfl, h1, h2, h3, q⟩ := h
  obtain ⟨t, rfl⟩ := rx
  obtain ⟨t', rfl⟩ := ry
  have fin : ∀ (b : Str) (tk : Nat) (t2 : Tok), b = strRep a k → (fun v s' => ∃ x H', Inv X pins σ H' s' ∧ RelV x v ∧ Q x H') (Value.str b t2) { s with toks := tk } := fun b tk t2 e => ⟨.str b, H, I.tok _, ⟨_, rfl⟩, e ▸ q⟩
  refine PySem.P.mul_str ?_ ?_ ?_ ?_
  · rw [decide_eq_false (by omega), decide_eq_false (by omega)]; rfl
  · intro n1 _
    have : (1000 : Int) ≤ (2 ^ 63 - 1) / k := by
      rw [Int.le_ediv_iff_mul_le (by omega)]
      omega
    omega
  · intro n1 _
    have hh : a.length * k.toNat ≤ 1000 * 1000 := Nat.mul_le_mul h3 (by omega)
    have hz : a.length * k.toNat ≤ sizeLine := Nat.le_trans hh (by decide)
    show decide (a.length * k.toNat > sizeLine) = false
    exact decide_eq_false (by omega)
  · by_cases c1 : k < 1
    · rw [if_pos c1]
      refine ⟨by decide, ?_⟩
      have e : Str.empty = strRep a k := by
        apply str_ext
        rw [strRep_tl, show k.toNat = 0 by omega]; rfl
      exact fin _ _ _ e
    · rw [if_neg c1]
      by_cases c2 : (k == 1 || a.length == 0) = true
      · rw [if_pos c2]
        have e : a = strRep a k := by
          apply str_ext
          rw [strRep_tl]
          rcases Bool.or_eq_true_iff.mp c2 with z | z
          · have : k = 1 := by simpa using z
            subst this; simp
          · have h0 : a.cps = #[] := Array.eq_empty_of_size_eq_zero (by simpa [Str.length] using z)
            rw [h0]; simp
        exact fin _ _ _ e
      · rw [if_neg c2]
        refine ⟨?_, ?_⟩
        · show (strRep a k).length ≤ sizeLine
          rw [strRep_len]
          have hh : k.toNat * a.length ≤ 1000 * 1000 := Nat.mul_le_mul (by omega) h3
          exact Nat.le_trans hh (by decide)
        · exact fin _ _ _ rfl
def uMul (K : PySem.W.Frag) : R2 := fun x y H Q => rI CMulW (fun i j => .int (i * j)) x y H Q ∨ rRep x y H Q ∨ rRepT K x y H Q ∨ rRepS x y H Q
theorem op_uMul : OpR X (binaryOp .Mult) (uMul X.K) := OpR.or op_mulW (.or op_rep (.or op_repT op_repS))
def uDiv : R2 := rI CDivW fun i j => .int (i / j)
theorem op_uDiv : OpR X (binaryOp .FloorDiv) uDiv := op_fdivW
def uMod : R2 := rI (fun _ j => 0 < j) fun i j => .int (i % j)
theorem op_uMod : OpR X (binaryOp .Mod) uMod := op_mod
def CPowW (i j : Int) : Prop := 0 ≤ j ∧ (Builtin.Int.intBits i : Int) * j ≤ 2 ^ 27
def uPow : R2 := rI CPowW fun i j => .int (i ^ j.toNat)
theorem op_uPow : OpR X (binaryOp .Pow) uPow := opI fun _ _ _ _ _ _ _ hc q => pow_int hc.1 hc.2 q
def uLt : R2 := rI0 fun i j => .bl (decide (i < j))
def uLe : R2 := rI0 fun i j => .bl (decide (i ≤ j))
def uGt : R2 := rI0 fun i j => .bl (decide (j < i))
def uGe : R2 := rI0 fun i j => .bl (decide (j ≤ i))
theorem op_uLt : OpR X (compareOp .Lt) uLt := op_lt
theorem op_uLe : OpR X (compareOp .LtE) uLe := op_le
theorem op_uGt : OpR X (compareOp .Gt) uGt := op_gt
theorem op_uGe : OpR X (compareOp .GtE) uGe := op_ge
/-- ==: scalars, data at any depth, a dict against an empty one -/
def rEqE : R2 := fun x y H Q => ∃ a b kvs, x = .ref a ∧ y = .ref b ∧ Rd H a (.dK kvs) ∧ H b = some (.dK []) ∧ Q (.bl kvs.isEmpty) H
def rNeE : R2 := fun x y H Q => ∃ a b kvs, x = .ref a ∧ y = .ref b ∧ Rd H a (.dK kvs) ∧ H b = some (.dK []) ∧ Q (.bl !kvs.isEmpty) H
theorem op_eqE (hu : X.A.units < cLine) : OpR X (compareOp .Eq) rEqE := by
  intro pins s σ H x y v u Q I rx ry h
  obtain ⟨a, b, kvs, rfl, rfl, ea, eb, q⟩ := h
  obtain rfl : v = Value.ref a := rx
  obtain rfl : u = Value.ref b := ry
  obtain ⟨_, ya, va, ra, da⟩ := (show ObjOk X.prog X.w H s.heap a (.dK kvs) from ea.ok I.hok)
  obtain ⟨_, yb, vb, rb, db⟩ := (show ObjOk X.prog X.w H s.heap b (.dK []) from I.hok b _ eb)
  cases rb
  cases ra with
  | nil => exact PySem.W.keq_eq (knd := mixKind X.prog X.w) (r := true) ya yb da db hu (fun _ => .nil) (fin_bl I q (by simp))
  | cons r t => exact PySem.W.keq_eq (knd := mixKind X.prog X.w) (r := true) ya yb da db hu (fun h => by simp at h) (fin_bl I q (by simp))
theorem op_neE (hu : X.A.units < cLine) : OpR X (compareOp .NotEq) rNeE := by
  intro pins s σ H x y v u Q I rx ry h
  obtain ⟨a, b, kvs, rfl, rfl, ea, eb, q⟩ := h
  obtain rfl : v = Value.ref a := rx
  obtain rfl : u = Value.ref b := ry
  obtain ⟨_, ya, va, ra, da⟩ := (show ObjOk X.prog X.w H s.heap a (.dK kvs) from ea.ok I.hok)
  obtain ⟨_, yb, vb, rb, db⟩ := (show ObjOk X.prog X.w H s.heap b (.dK []) from I.hok b _ eb)
  cases rb
  cases ra with
  | nil => exact PySem.W.keq_ne (knd := mixKind X.prog X.w) (r := true) ya yb da db hu (fun _ => .nil) (fin_bl I q (by simp))
  | cons r t => exact PySem.W.keq_ne (knd := mixKind X.prog X.w) (r := true) ya yb da db hu (fun h => by simp at h) (fin_bl I q (by simp))
def uEq (K : PySem.W.Frag) : R2 := fun x y H Q => rEq x y H Q ∨ rEqD K x y H Q ∨ rEqE x y H Q
theorem op_uEq (hu : X.A.units + 64 < cLine) : OpR X (compareOp .Eq) (uEq X.K) := op_eq.or ((op_eqD hu).or (op_eqE (by omega)))
def uNe (K : PySem.W.Frag) : R2 := fun x y H Q => rNe x y H Q ∨ rNeD K x y H Q ∨ rNeE x y H Q
theorem op_uNe (hu : X.A.units + 64 < cLine) : OpR X (compareOp .NotEq) (uNe X.K) := op_ne.or ((op_neD hu).or (op_neE (by omega)))
def rInStr : R2 := fun x y H Q => ∃ i j, x = .str i ∧ y = .str j ∧ Q (.bl (!(Builtin.Str.occurrences j i 0 j.length 1).isEmpty)) H
def rNiStr : R2 := fun x y H Q => ∃ i j, x = .str i ∧ y = .str j ∧ Q (.bl (!(!(Builtin.Str.occurrences j i 0 j.length 1).isEmpty))) H
def rInSg : R2 := fun x y H Q => ∃ (c : Nat) (z : Str), x = .str ⟨#[c]⟩ ∧ y = .str z ∧ Q (.bl (decide (c ∈ z.cps.toList))) H
def rNiSg : R2 := fun x y H Q => ∃ (c : Nat) (z : Str), x = .str ⟨#[c]⟩ ∧ y = .str z ∧ Q (.bl (!decide (c ∈ z.cps.toList))) H
def rInD : R2 := fun y x H Q => ∃ a o, x = .ref a ∧ DGet H a y o ∧ Q (.bl o.isSome) H
def rNiD : R2 := fun y x H Q => ∃ a o, x = .ref a ∧ DGet H a y o ∧ Q (.bl (!o.isSome)) H
theorem op_inD (hu : X.A.units + 1 < cLine) : OpR X (compareOp .In) rInD := by
  intro pins s σ H y x v u Q I ry rx h
  obtain ⟨a, o, rfl, g, q⟩ := h
  cases (show u = Value.ref a from rx)
  exact d_in hu I g ry fun s3 I3 => ⟨.bl o.isSome, H, I3, rfl, q⟩
theorem op_niD (hu : X.A.units + 1 < cLine) : OpR X (compareOp .NotIn) rNiD := by
  intro pins s σ H y x v u Q I ry rx h
  obtain ⟨a, o, rfl, g, q⟩ := h
  cases (show u = Value.ref a from rx)
  exact d_notIn hu I g ry fun s3 I3 => ⟨.bl (!o.isSome), H, I3, rfl, q⟩
def uIn (K : PySem.W.Frag) : R2 := fun x y H Q => rIn K false x y H Q ∨ rInSg x y H Q ∨ rInD x y H Q
def uNi (K : PySem.W.Frag) : R2 := fun x y H Q => rIn K true x y H Q ∨ rNiSg x y H Q ∨ rNiD x y H Q
theorem op_uIn (hu : X.A.units + 64 < cLine) : OpR X (compareOp .In) (uIn X.K) := op_in_seq.or (.or op_in_sign (op_inD (by omega)))
theorem op_uNi (hu : X.A.units + 64 < cLine) : OpR X (compareOp .NotIn) (uNi X.K) := op_notIn_seq.or (.or op_notIn_sign (op_niD (by omega)))
def rIsN : R2 := fun x y H Q => y = .non ∧ Q (.bl (decide (x = .non))) H
def rNtN : R2 := fun x y H Q => y = .non ∧ Q (.bl (!decide (x = .non))) H
def uIs : R2 := fun x y H Q => rIsN x y H Q ∨ rIsB x y H Q
def uNt : R2 := fun x y H Q => rNtN x y H Q ∨ rNotB x y H Q
theorem op_uIs : OpR X (compareOp .Is) uIs := OpR.or op_isN op_isBl
theorem op_uNt : OpR X (compareOp .IsNot) uNt := OpR.or op_notN op_notBl
/-- a[b] -/
def rIxDc : R2 := fun x y H Q => ∃ a v, x = .ref a ∧ DGet H a y (some v) ∧ Q v H
theorem ix_dict (hu : X.A.units + 1 < cLine) : IxR X rIxDc := by
  intro value slice pins s σ H x y v u Q I rx ry h hs
  obtain ⟨a, w, rfl, g, q⟩ := h
  cases (show v = Value.ref a from rx)
  unfold subscriptTail
  have hT := dict_typeIs I g
  refine wpAny_bind ?_
  rw [getitemInPython_of_ne hT.not_modules]
  refine wpAny_bind (wpAny_specialOf hT PySem.F.slot_dict_getitem.lookup ?_)
  have fin : ∀ {Q' : Value → Shared → Prop}, (∀ r s₃, EP X pins σ Q r s₃ → Q' r s₃) → wpAny (model X.prog X.w) X.A (subscripted slice false (.ref a) u) (fun r s₃ => wpAny (model X.prog X.w) X.A (letTemporaryGo value (.ref a) r >>= fun _ => pure r) Q' X.xe s₃) X.xe s := fun {Q'} hQ => by
    rw [hs]
    exact wpAny_operating (d_getItem hu I g ry fun w' s3 I3 rw' => wpAny_bind (wpAny_letTemporaryGo (wpAny_pure (hQ _ _ ⟨w, H, I3, rw', q⟩))))
  first
    | exact wpAny_pure (wpAny_bind (fin fun _ _ h => h))
    | exact wpAny_bind (wpAny_pure (wpAny_bind (fin fun _ _ h => h)))
    | exact wpAny_bind (fin fun _ _ h => h)
def uIx (K : PySem.W.Frag) : R2 := fun x y H Q => rIx K x y H Q ∨ rIxDc x y H Q
theorem ix_u (hu : X.A.units + 64 < cLine) : IxR X (uIx X.K) := ix_seq.or (ix_dict (by omega))
/-- a[lo:hi] -/
def uSl (K : PySem.W.Frag) : V → Option Int → Option Int → Hp → VK → Prop := fun x lo hi H Q => rSlL K x lo hi H Q ∨ rSlA K x lo hi H Q ∨ rSlS x lo hi H Q
theorem sl_u : SlR X (uSl X.K) := SlR.or sl_list (.or sl_tupA sl_str)
/-- a[b] = e -/
def uSet : TSet := fun o i v H Q => rSetL o i v H Q ∨ rSetD o i v H Q
theorem set_u (hu : X.A.units + 64 < cLine) : PSet X uSet := by
  intro pins s σ H o i v ov iv nv Q I ro ri rv q
  rcases q with q | q
  · exact set_list pins s σ H o i v ov iv nv Q I ro ri rv q
  · exact set_dict (by omega) pins s σ H o i v ov iv nv Q I ro ri rv q
/-- built-ins -/
def rLen (K : PySem.W.Frag) : List V → Hp → VK → Prop := fun xs H Q => ∃ x n, xs = [x] ∧ LenV K x H n ∧ Q (.int (n : Nat)) H
def rLenD : List V → Hp → VK → Prop := fun xs H Q => ∃ a kvs, xs = [V.ref a] ∧ Rd H a (.dK kvs) ∧ Q (.int (kvs.length : Nat)) H
theorem call_lenR : CallR X (.builtin "len") rLenD := by
  intro pins s σ H xs us Q I r h
  obtain ⟨a, kvs, rfl, ha, q⟩ := h
  obtain ⟨u, rfl, ru⟩ := vals1 r
  cases ru
  exact d_len I ha fun t s' I' => ⟨.int kvs.length, H, I', ⟨t, rfl⟩, q⟩
def uLen (K : PySem.W.Frag) : List V → Hp → VK → Prop := fun xs H Q => rLen K xs H Q ∨ rLenD xs H Q
theorem cr_uLen : CallR X (.builtin "len") (uLen X.K) := CallR.or call_len call_lenR
def rMax2 : List V → Hp → VK → Prop := fun xs H Q => ∃ i j, xs = [.int i, .int j] ∧ Q (.int (if j > i then j else i)) H
def rMin2 : List V → Hp → VK → Prop := fun xs H Q => ∃ i j, xs = [.int i, .int j] ∧ Q (.int (if j < i then j else i)) H
def uMax (K : PySem.W.Frag) : List V → Hp → VK → Prop := fun xs H Q => rMax K xs H Q ∨ rMax2 xs H Q
def uMin (K : PySem.W.Frag) : List V → Hp → VK → Prop := fun xs H Q => rMin K xs H Q ∨ rMin2 xs H Q
theorem cr_uMax (hc : X.calm = true) : CallR X (.builtin "max") (uMax X.K) := CallR.or (cr_max hc) (call_max2 hc)
theorem cr_uMin (hc : X.calm = true) : CallR X (.builtin "min") (uMin X.K) := CallR.or (cr_min hc) (call_min2 hc)
def rAbs : List V → Hp → VK → Prop := fun xs H Q => ∃ i, xs = [.int i] ∧ Q (.int (if i < 0 then -i else i)) H
theorem cr_uAbs : CallR X (.builtin "abs") rAbs := call_abs
def rInt1 : List V → Hp → VK → Prop := fun xs H Q => (∃ i, xs = [.int i] ∧ Q (.int i) H) ∨ ∃ k, xs = [.bl k] ∧ Q (.int (if k then 1 else 0)) H
def rIntS : List V → Hp → VK → Prop := fun xs H Q => ∃ a n, xs = [.str a] ∧ PySem.intText? a = some n ∧ a.length ≤ 640 ∧ Q (.int n) H
def uInt : List V → Hp → VK → Prop := fun xs H Q => rInt1 xs H Q ∨ rIntS xs H Q
theorem cr_uInt : CallR X (.type "int") uInt := CallR.or call_int1 call_int_str
def rStrI : List V → Hp → VK → Prop := fun xs H Q => (∃ i, xs = [.int i] ∧ i.natAbs.log2 < 1920 ∧ Q (.str (toString i)) H) ∨ ∃ a, xs = [.str a] ∧ Q (.str a) H
theorem cr_uStr : CallR X (.type "str") rStrI := fun pins s σ H xs us Q I r h => h.elim (call_str_int pins s σ H xs us Q I r) (SkE.call_str_str pins s σ H xs us Q I r)
def rListS (K : PySem.W.Frag) : List V → Hp → VK → Prop := fun xs H Q => ∃ p ys, xs = [.ref p] ∧ (SqL K H p ys ∨ SqT K H p ys) ∧ ∀ l, H l = none → Q (.ref l) (upd H l (.lst ys))
def rListD : List V → Hp → VK → Prop := fun xs H Q => ∃ (a : Addr) (kvs : List (Key × V)), xs = [.ref a] ∧ Rd H a (.dK kvs) ∧ ∀ p, H p = none → Q (.ref p) (upd H p (.lst (kvs.map fun kv => kV kv.1)))
def uList (K : PySem.W.Frag) : List V → Hp → VK → Prop := fun xs H Q => rListS K xs H Q ∨ rListD xs H Q
theorem cr_uList (hc : X.calm = true) : CallR X (.type "list") (uList X.K) := CallR.or call_list_of (call_listD hc)
def rTupS (K : PySem.W.Frag) : List V → Hp → VK → Prop := fun xs H Q => ∃ p ys, xs = [.ref p] ∧ ((SqL K H p ys ∧ ∀ l, H l = none → Q (.ref l) (upd H l (.tup ys))) ∨ (SqT K H p ys ∧ Q (.ref p) H))
theorem cr_uTup : CallR X (.type "tuple") (rTupS X.K) := call_tuple_of
/-- what a for walks: a list, a tuple, a text -/
def iAny (K : PySem.W.Frag) (tl : TE) : TI := fun σ H R => tl σ H fun x H1 =>
  (∃ a, x = .ref a ∧ (∃ xs, SqL K H1 a xs) ∧ R (Itl K a) H1) ∨ (∃ a, x = .ref a ∧ (∃ xs, SqT K H1 a xs) ∧ R (Itt K a) H1) ∨ ∃ y, x = .str y ∧ R (Its y) H1
theorem pi_any {tg l : Expr} {tl : TE} (hl : PE X l tl) : PI X tg l (iAny X.K tl) := by
  refine ⟨fun pins s σ H R I h => ?_⟩
  refine thn (hl.run pins s σ H _ I h) fun v s1 ⟨x, H1, I1, r1, q1⟩ => ?_
  rcases q1 with ⟨a, e, ⟨xs, hq⟩, q⟩ | ⟨a, e, ⟨xs, hq⟩, q⟩ | ⟨y, e, q⟩
  · subst e
    cases r1
    obtain ⟨its, rv, p, hz⟩ := I1.list hq
    refine wpAny_pyIter_list p.isList ?_
    refine ⟨s1.heap.objs.size, [s1.heap.objs.size], _, _, H1, rfl, I1.kept (t' := s1.toks) fun b o e => Heap.get?_push_of_some _ e, turn_list a _, ⟨_, Heap.get?_push_size _ rfl, rfl, rfl⟩, fun b hb => ?_, q⟩
    have e : b = s1.heap.objs.size := by simpa using hb
    subst e
    exact I1.fpOk (Nat.le_refl _) (I1.hok.fresh (Nat.le_refl _))
  · subst e
    cases r1
    obtain ⟨its, rv, p, hz⟩ := I1.tuple hq
    refine wpAny_pyIter_tuple (show s1.heap.IsTuple a its.toArray from p) ?_
    refine ⟨s1.heap.objs.size, [s1.heap.objs.size], _, _, H1, rfl, I1.kept (t' := s1.toks) fun b o e => Heap.get?_push_of_some _ e, turn_tuple a _, ⟨_, Heap.get?_push_size _ rfl, rfl, rfl⟩, fun b hb => ?_, q⟩
    have e : b = s1.heap.objs.size := by simpa using hb
    subst e
    exact I1.fpOk (Nat.le_refl _) (I1.hok.fresh (Nat.le_refl _))
  · subst e
    obtain ⟨t, rfl⟩ := r1
    cases ha : y.cps.all (· < 128)
    · exact wpAny_pyIter_wide ha (pi_one (tk := s1.toks) I1 _ (turn_str _ y t "str_iterator" (.inr rfl)) ⟨_, Heap.get?_push_size _ rfl, rfl, rfl⟩ q)
    · exact wpAny_pyIter_ascii ha (pi_one (tk := s1.toks) I1 _ (turn_str _ y t "str_ascii_iterator" (.inl rfl)) ⟨_, Heap.get?_push_size _ rfl, rfl, rfl⟩ q)
end
end Dm

set_option Elab.async false
set_option linter.all false
set_option maxRecDepth 100000
set_option maxHeartbeats 4000000
set_option autoImplicit false
/-! Wk: enumerate and zip over lists and tuples, in any mix. -/
namespace PySem
open Sem (wp)
set_option maxHeartbeats 1000000 in
theorem meets_enumerate_newB1 {v : Value} {o : Obj} {H : Heap → Prop} (B : Begins v o H) :
    Meets (Builtin.«enumerate.__new__» ⟨[.type "enumerate", v], []⟩) (fun _ R s => H s.heap ∧
      R (.ok (.ret (.ref (s.heap.push o).objs.size))) { s with heap := (s.heap.push o).push { cls := .type "enumerate", data := .fields #[.none, .bool false, .ref s.heap.objs.size, rawInt 0, .none, .none] } }) :=
  .of_wp fun prog w A R s h => by
    obtain ⟨hp, g, d, tk, os⟩ := s; obtain ⟨h1, h⟩ := h
    have hsub := sub_enumerate
    have q1 : ∀ {A' : Around} {E : Value → Shared → Prop} {Q : Value → Shared → Prop}, Q (.ref hp.objs.size) ⟨hp.push o, g, d, tk, os⟩ → wpAny (model prog w) A' (pyIter v) Q E ⟨hp, g, d, tk, os⟩ :=
      fun q => B.iter prog w _ _ ⟨hp, g, d, tk, os⟩ _ h1 q
    wp_walk using q1
    refine wpAny_stack_any fun st => wpAny_pure ?_
    split
    · rename_i c _ _ _ _ _
      cases (c == Value.type "enumerate")
      · wp_walk using q1
        exact ⟨_, rfl, h⟩
      · wp_walk using q1
        exact ⟨_, rfl, h⟩
    · wp_walk using q1
      exact ⟨_, rfl, h⟩
theorem enum_begins1 {prog : Program} {w : World} {A : Around} {E : Value → Shared → Prop} {s : Shared} {v : Value} {o : Obj} {H : Heap → Prop} {Q : Value → Shared → Prop} (B : Begins v o H) (h1 : H s.heap)
    (h : ∀ h', IsEnum h' (s.heap.objs.size + 1) s.heap.objs.size 0 .none → h'.get? s.heap.objs.size = some o → h'.objs.size = s.heap.objs.size + 2 →
      (∀ b o, s.heap.get? b = some o → h'.get? b = some o) → Q (.ref (s.heap.objs.size + 1)) { s with heap := h' }) :
    wpAny (model prog w) A (call (.type "enumerate") [v]) Q E s := by
  refine callType_new F.called_enumerate (by decide) (F.typeCall_enumerate_1 _) (F.newCall_enumerate_1 _) (fun obj => F.args_object_init_2 obj _) F.entry_enumerate_new
    (meets_enumerate_newB1 B) ⟨h1, ?_⟩
  have hz : (s.heap.push o).objs.size = s.heap.objs.size + 1 := Heap.size_push ..
  show _ ∧ _
  rw [hz]
  have he : IsEnum ((s.heap.push o).push { cls := .type "enumerate", data := .fields #[.none, .bool false, .ref s.heap.objs.size, rawInt 0, .none, .none] }) (s.heap.objs.size + 1) s.heap.objs.size 0 .none := by
    have := Heap.get?_push_size (s.heap.push o) (o := { cls := .type "enumerate", data := .fields #[.none, .bool false, .ref s.heap.objs.size, rawInt 0, .none, .none] }) rfl
    rw [hz] at this; exact this
  refine ⟨⟨_, he, rfl⟩, h _ he (Heap.get?_push_of_some _ (Heap.get?_push_size _ B.free)) (by rw [Heap.size_push, hz]) fun b o x => Heap.get?_push_of_some _ (Heap.get?_push_of_some _ x)⟩
end PySem
namespace Dm
open PySem L2 Evl PyProof.Rows
/-- a list (true) or a tuple (false) -/
def SqK (k : Bool) (K : PySem.W.Frag) (H : Hp) (a : Addr) (xs : List V) : Prop := match k with
  | true => SqL K H a xs
  | false => SqT K H a xs
def ItK (k : Bool) (h : Heap) (it a : Addr) (i : Nat) : Prop := match k with
  | true => h.IsListIter it a i
  | false => h.IsTupleIter it a i
def ObK (k : Bool) (h : Heap) (a : Addr) (xs : Array Value) : Prop := match k with
  | true => h.IsList a xs
  | false => h.IsTuple a xs
def objK (k : Bool) (a : Addr) : Obj := match k with
  | true => { cls := .type "list_iterator", data := .fields #[.ref a, .int 0 0] }
  | false => { cls := .type "tuple_iterator", data := .fields #[.ref a, .int 0 0] }
theorem draws_k {prog : Program} {w : World} {A : Around} (k : Bool) (hh : A.handled = none) (it l : Addr) (hne : l ≠ it) (items : Array Value) :
    Draws prog w A it [it, l] items.size (fun i v => items[i]? = some v) (fun i h => ItK k h it l i ∧ ObK k h l items) := by
  cases k
  · exact Draws.tuple hh it l hne items
  · exact Draws.list hh it l hne items
theorem begins_k (k : Bool) (l : Addr) (items : Array Value) : Begins (.ref l) (objK k l) fun h => ObK k h l items := by
  cases k
  · exact begins_tuple l items
  · exact begins_list l items
theorem itK_new {k : Bool} {h : Heap} {it a : Addr} (e : h.get? it = some (objK k a)) : ItK k h it a 0 := by
  cases k
  · exact ⟨_, e, rfl, rfl⟩
  · exact ⟨_, e, rfl, rfl⟩
theorem ItK.at {k : Bool} {h h' : Heap} {it a : Addr} {i : Nat} (x : ItK k h it a i) (f : ∀ o, h.get? it = some o → h'.get? it = some o) : ItK k h' it a i := by
  cases k
  · obtain ⟨o, e, c⟩ := x; exact ⟨o, f o e, c⟩
  · obtain ⟨o, e, c⟩ := x; exact ⟨o, f o e, c⟩
theorem ItK.obj {k : Bool} {h : Heap} {it a : Addr} {i : Nat} (x : ItK k h it a i) : ∃ o, h.get? it = some o ∧ ∀ v, o.data ≠ .cell v := by
  cases k
  · obtain ⟨o, e, _, d⟩ := x; exact ⟨o, e, fun v q => by rw [d] at q; cases q⟩
  · obtain ⟨o, e, _, d⟩ := x; exact ⟨o, e, fun v q => by rw [d] at q; cases q⟩
section
variable {X : Cx} {pins : List (Addr × Obj)} {σ : L2.St} {H : Hp} {s : Shared}
theorem inv_k (I : Inv X pins σ H s) {k : Bool} {a : Addr} {xs : List V} (h : SqK k X.K H a xs) : ∃ its : List Value, Vals xs its ∧ ObK k s.heap a its.toArray ∧ a < s.heap.objs.size := by
  cases k
  · obtain ⟨its, r, p, _⟩ := I.tuple h; exact ⟨its, r, p, p.lt⟩
  · obtain ⟨its, r, p, _⟩ := I.list h; exact ⟨its, r, p.isList, p.lt⟩
theorem inv_k_inj (I : Inv X pins σ H s) {k : Bool} {a : Addr} {xs ys : List V} (h : SqK k X.K H a xs) (h' : SqK k X.K H a ys) : xs = ys := by
  cases k
  · exact I.tuple_inj h h'
  · exact I.list_inj h h'
end
def ItZ (K : PySem.W.Frag) (k1 k2 : Bool) (a b : Addr) : L2.It :=
  ⟨fun i H => ∃ (xs ys : List V) (x y : V), SqK k1 K H a xs ∧ SqK k2 K H b ys ∧ xs[i]? = some x ∧ ys[i]? = some y,
    fun i H v H' => ∃ T x y, v = .ref T ∧ H T = none ∧ H' = upd H T (.tup [x, y]) ∧ (∀ xs, SqK k1 K H a xs → xs[i]? = some x) ∧ ∀ ys, SqK k2 K H b ys → ys[i]? = some y,
    fun i H => ∃ xs ys : List V, SqK k1 K H a xs ∧ SqK k2 K H b ys ∧ (xs.length = i ∧ i ≤ ys.length ∨ ys.length = i ∧ i ≤ xs.length)⟩
def ItE (K : PySem.W.Frag) (k : Bool) (a : Addr) : L2.It :=
  ⟨fun i H => ∃ (xs : List V) (x : V), SqK k K H a xs ∧ xs[i]? = some x,
    fun i H v H' => ∃ T x, v = .ref T ∧ H T = none ∧ H' = upd H T (.tup [.int (i : Nat), x]) ∧ (∀ xs, SqK k K H a xs → xs[i]? = some x),
    fun i H => ∃ xs : List V, SqK k K H a xs ∧ xs.length = i⟩
theorem zsep {z TI TO i1 i2 a b : Addr} (D : ZipApart z TI TO i1 i2 a b) : ZipSep2 z TI TO i1 i2 [i1, a] [i2, b] where
  TIz := D.TIz
  TOz := D.TOz
  TITO := D.TITO
  TIi1 := D.TIi1
  mem1 := by simp
  zf1 := by simp; exact ⟨D.i1z.symm, D.l1z.symm⟩
  Tf1 := by simp; exact ⟨D.TOi1, D.l1TO.symm⟩
  TIi2 := D.TIi2
  mem2 := by simp
  zf2 := by simp; exact ⟨D.i2z.symm, D.l2z.symm⟩
  Tf2 := by simp; exact ⟨D.TOi2, D.l2TO.symm⟩
  sep1_2 := by simp; exact ⟨D.i12, D.l2i1.symm⟩
  sep2_1 := by simp; exact ⟨D.i12.symm, D.l1i2.symm⟩
theorem turn_z {P : Program} {w : World} {K : PySem.W.Frag} {elts : List Expr} {kk : Nat} {tpos : Pos} {k1 k2 : Bool} {a b z TI TO i1 i2 : Addr} (D : ZipApart z TI TO i1 i2 a b) :
    Turn P w K (.Tuple elts kk tpos) (ItZ K k1 k2 a b) [z, TI, TO, i1, i2] z (fun i h => IsZip h z TI TO .none ∧ IsTupOf2 h TI (.ref i1) (.ref i2) ∧ (∃ x y, IsTupOf2 h TO x y) ∧ ItK k1 h i1 a i ∧ ItK k2 h i2 b i) where
  mem := by simp
  obj := fun i h st c hc => by
    obtain ⟨hz, hTI, ⟨x, y, hTO⟩, h1, h2⟩ := st
    have e' : c = z ∨ c = TI ∨ c = TO ∨ c = i1 ∨ c = i2 := by simpa using hc
    rcases e' with q | q | q | q | q
    · rw [q]; exact ⟨_, hz, fun v q => nomatch q⟩
    · rw [q]; exact ⟨_, hTI, fun v q => nomatch q⟩
    · rw [q]; exact ⟨_, hTO, fun v q => nomatch q⟩
    · rw [q]; exact h1.obj
    · rw [q]; exact h2.obj
  keep := fun i h h' st k => by
    obtain ⟨hz, hTI, ⟨x, y, hTO⟩, h1, h2⟩ := st
    exact ⟨k z (by simp) _ hz, k TI (by simp) _ hTI, ⟨x, y, k TO (by simp) _ hTO⟩, h1.at fun o q => k i1 (by simp) o q, h2.at fun o q => k i2 (by simp) o q⟩
  item := by
    intro X hP hw hK hc i pins s σ H E I hf st hg
    subst hP hw hK
    obtain ⟨hz, hTI, ⟨x0, y0, hTO⟩, h1, h2⟩ := st
    obtain ⟨xs, ys, x, y, hqx, hqy, hx, hy⟩ := hg
    obtain ⟨its, rv, p, _⟩ := inv_k I hqx
    obtain ⟨its2, rv2, p2, _⟩ := inv_k I hqy
    obtain ⟨u, hu, ru⟩ := rv.get hx
    obtain ⟨u2, hu2, ru2⟩ := rv2.get hy
    have hzl : z < s.heap.objs.size := Heap.lt_size hz
    have hd : X.A.in1.handled = none := I.ok.hd hc
    have li : i < its.toArray.size := by rw [List.size_toArray]; exact (List.getElem?_eq_some_iff.mp hu).1
    have li2 : i < its2.toArray.size := by rw [List.size_toArray]; exact (List.getElem?_eq_some_iff.mp hu2).1
    have D1 : Draws X.prog X.w X.A.in1 i1 [i1, a] its.toArray.size (fun i v => its.toArray[i]? = some v) (fun i h => ItK k1 h i1 a i ∧ ObK k1 h a its.toArray) := draws_k k1 hd i1 a D.l1i1 its.toArray
    have D2 : Draws X.prog X.w X.A.in1 i2 [i2, b] its2.toArray.size (fun i v => its2.toArray[i]? = some v) (fun i h => ItK k2 h i2 b i ∧ ObK k2 h b its2.toArray) := draws_k k2 hd i2 b D.l2i2 its2.toArray
    refine wpAny_pyNext_zipD2_item (zsep D) D1 D2 hz hTI hTO ⟨h1, p⟩ ⟨h2, p2⟩ li li2 fun v1 v2 h' tk e1 e2 z' TO' h1' h2' hT hsz hk => ?_
    have ev1 : v1 = u := by
      have q : its[i]? = some v1 := by simpa using e1
      rw [hu] at q; exact (Option.some.inj q).symm
    have ev2 : v2 = u2 := by
      have q : its2[i]? = some v2 := by simpa using e2
      rw [hu2] at q; exact (Option.some.inj q).symm
    subst ev1 ev2
    refine ⟨_, rfl, wpAny_letOwnedTupleGo_zip (s := { s with heap := h', toks := tk }) z' fun h'' z'' sb => ?_⟩
    have hT2 : h''.get? s.heap.objs.size = some { cls := .type "tuple", data := .seq #[v1, v2] } := (sb.2 _ (Nat.ne_of_gt hzl)).trans hT
    have new : ObjOk X.prog X.w (upd H s.heap.objs.size (.tup [x, y])) h'' s.heap.objs.size (.tup [x, y]) :=
      ⟨by show 2 ≤ sizeLine; decide, [v1, v2], .cons ru (.cons ru2 .nil), ⟨_, hT2, rfl, _, rfl⟩⟩
    have I1 : Inv X pins σ (upd H s.heap.objs.size (.tup [x, y])) { s with heap := h'', toks := tk } :=
      I.turnedNew (t' := tk) (ch := [z, TI, TO, i1, i2]) (fun c o hb q => (sb.2 c (fun q' => hb (by simp [q']))).trans (hk c o (fun q' => hb (by simp [q'])) (fun q' => hb (by simp [q'])) (fun q' => hb (by simp [q'])) (fun q' => hb (by simp [q'])) q)) hf (Nat.le_refl _) new
    refine ⟨.ref s.heap.objs.size, _, I1, rfl, ⟨_, x, y, rfl, I.hok.fresh (Nat.le_refl _), rfl, fun l hl => by rw [inv_k_inj I hl hqx]; exact hx, fun l hl => by rw [inv_k_inj I hl hqy]; exact hy⟩, ⟨z'', ?_, ⟨v1, v2, ?_⟩, ?_, ?_⟩, fun c hcm => ?_⟩
    · exact (sb.2 _ D.TIz).trans (hk _ _ D.TIz D.TITO D.TIi1 D.TIi2 hTI)
    · exact (sb.2 _ D.TOz).trans TO'
    · exact h1'.1.at fun o q => (sb.2 _ D.i1z).trans q
    · exact h2'.1.at fun o q => (sb.2 _ D.i2z).trans q
    · have hlt : c < s.heap.objs.size := by
        have e' : c = z ∨ c = TI ∨ c = TO ∨ c = i1 ∨ c = i2 := by simpa using hcm
        rcases e' with q | q | q | q | q
        · rw [q]; exact hzl
        · rw [q]; exact Heap.lt_size hTI
        · rw [q]; exact Heap.lt_size hTO
        · rw [q]; obtain ⟨_, e1, _⟩ := h1.obj; exact Heap.lt_size e1
        · rw [q]; obtain ⟨_, e2, _⟩ := h2.obj; exact Heap.lt_size e2
      rw [upd_ne (Nat.ne_of_lt hlt)]
      exact (hf c hcm).1
  done := by
    intro X hP hw hK hc i pins s σ H E I hf st hg
    subst hP hw hK
    obtain ⟨hz, hTI, ⟨x0, y0, hTO⟩, h1, h2⟩ := st
    obtain ⟨xs, ys, hqx, hqy, hend⟩ := hg
    obtain ⟨its, rv, p, _⟩ := inv_k I hqx
    obtain ⟨its2, rv2, p2, _⟩ := inv_k I hqy
    have l1 := rv.length
    have l2 := rv2.length
    have hd : X.A.in1.handled = none := I.ok.hd hc
    have D1 : Draws X.prog X.w X.A.in1 i1 [i1, a] its.toArray.size (fun i v => its.toArray[i]? = some v) (fun i h => ItK k1 h i1 a i ∧ ObK k1 h a its.toArray) := draws_k k1 hd i1 a D.l1i1 its.toArray
    have D2 : Draws X.prog X.w X.A.in1 i2 [i2, b] its2.toArray.size (fun i v => its2.toArray[i]? = some v) (fun i h => ItK k2 h i2 b i ∧ ObK k2 h b its2.toArray) := draws_k k2 hd i2 b D.l2i2 its2.toArray
    refine wpAny_pyNext_zipD2_end (zsep D) D1 D2 hz hTI hTO ⟨h1, p⟩ ⟨h2, p2⟩ (by simp; omega) (by simp; omega) (by simp; omega) fun h' tk hk => ⟨rfl, I.turnedL (t' := tk) (ch := [z, TI, TO, i1, i2]) (fun c o hb q =>
      hk c o (fun q' => hb (by simp [q'])) (fun q' => hb (by simp [q'])) (fun q' => hb (by simp [q'])) (fun q' => hb (by simp [q'])) q) hf⟩
  self := fun A i s Q E st h => wpAny_pyIter_zip st.1 h
theorem turn_e {P : Program} {w : World} {K : PySem.W.Frag} {elts : List Expr} {kk : Nat} {tpos : Pos} {k : Bool} {a e it : Addr} (hne : e ≠ it) (hae : a ≠ e) (hai : a ≠ it) :
    Turn P w K (.Tuple elts kk tpos) (ItE K k a) [e, it] e (fun i h => (∃ old, IsEnum h e it ((i : Nat) : Int) old) ∧ ItK k h it a i) where
  mem := by simp
  obj := fun i h st b hb => by
    obtain ⟨⟨old, he⟩, hi⟩ := st
    have e' : b = e ∨ b = it := by simpa using hb
    rcases e' with z | z
    · rw [z]; exact ⟨_, he, fun v q => nomatch q⟩
    · rw [z]; exact hi.obj
  keep := fun i h h' st k => let ⟨⟨old, he⟩, hi⟩ := st; ⟨⟨old, k e (by simp) _ he⟩, hi.at fun o q => k it (by simp) o q⟩
  item := by
    intro X hP hw hK hc i pins s σ H E I hf st hg
    subst hP hw hK
    obtain ⟨⟨old, he⟩, hit⟩ := st
    obtain ⟨xs, x, hq, hx⟩ := hg
    obtain ⟨its, rv, p, hz⟩ := inv_k I hq
    obtain ⟨u, hu, ru⟩ := rv.get hx
    have hel : e < s.heap.objs.size := Heap.lt_size he
    have hil : it < s.heap.objs.size := by obtain ⟨_, q, _⟩ := hit.obj; exact Heap.lt_size q
    have hd : X.A.in1.handled = none := I.ok.hd hc
    have li : i < its.toArray.size := by rw [List.size_toArray]; exact (List.getElem?_eq_some_iff.mp hu).1
    have D1 : Draws X.prog X.w X.A.in1 it [it, a] its.toArray.size (fun i v => its.toArray[i]? = some v) (fun i h => ItK k h it a i ∧ ObK k h a its.toArray) := draws_k k hd it a hai its.toArray
    refine wpAny_pyNext_enum_itemC D1 he ⟨hit, p⟩ li hne (by simp; exact ⟨hne, hae.symm⟩) fun v h' tk ev ho st' hT hsz hk => ?_
    have ev1 : v = u := by
      have q : its[i]? = some v := by simpa using ev
      rw [hu] at q; exact (Option.some.inj q).symm
    subst ev1
    refine ⟨_, rfl, wpAny_letOwnedTupleGo_enum (s := { s with heap := h', toks := tk + 1 }) ho fun h'' he' sb => ?_⟩
    have hT2 : h''.get? s.heap.objs.size = some { cls := .type "tuple", data := .seq #[.int i tk, v] } := (sb.2 _ (Nat.ne_of_gt hel)).trans hT
    have new : ObjOk X.prog X.w (upd H s.heap.objs.size (.tup [.int (i : Nat), x])) h'' s.heap.objs.size (.tup [.int (i : Nat), x]) :=
      ⟨by show 2 ≤ sizeLine; decide, [.int i tk, v], .cons ⟨_, rfl⟩ (.cons ru .nil), ⟨_, hT2, rfl, _, rfl⟩⟩
    have I1 : Inv X pins σ (upd H s.heap.objs.size (.tup [.int (i : Nat), x])) { s with heap := h'', toks := tk + 1 } :=
      I.turnedNew (ch := [e, it]) (fun b ob hb q => (sb.2 b (fun z => hb (by simp [z]))).trans (hk b ob (fun z => hb (by simp [z])) (fun z => hb (by simp [z])) q)) hf (Nat.le_refl _) new
    refine ⟨.ref s.heap.objs.size, _, I1, rfl, ⟨_, x, rfl, I.hok.fresh (Nat.le_refl _), rfl, fun ys hy => by rw [inv_k_inj I hy hq]; exact hx⟩, ⟨⟨v, ?_⟩, st'.1.at fun o q => (sb.2 it (Ne.symm hne)).trans q⟩, fun b hb => ?_⟩
    · have e1 : ((i + 1 : Nat) : Int) = (i : Int) + 1 := by omega
      rw [e1]; exact he'
    · have hb' : b < s.heap.objs.size := by
        have e' : b = e ∨ b = it := by simpa using hb
        rcases e' with z | z
        · rw [z]; exact hel
        · rw [z]; exact hil
      rw [upd_ne (Nat.ne_of_lt hb')]
      exact (hf b hb).1
  done := by
    intro X hP hw hK hc i pins s σ H E I hf st hg
    subst hP hw hK
    obtain ⟨⟨old, he⟩, hit⟩ := st
    obtain ⟨xs, hq, hx⟩ := hg
    obtain ⟨its, rv, p, hz⟩ := inv_k I hq
    obtain ⟨f0, f1, f2, f3, f4, f5⟩ := hf it (by simp)
    have hl := rv.length
    have hd : X.A.in1.handled = none := I.ok.hd hc
    have D1 : Draws X.prog X.w X.A.in1 it [it, a] its.toArray.size (fun i v => its.toArray[i]? = some v) (fun i h => ItK k h it a i ∧ ObK k h a its.toArray) := draws_k k hd it a hai its.toArray
    have hn : its.toArray.size = i := by simp; omega
    exact wpAny_pyNext_enum_endD D1 he ⟨by rw [hn]; exact hit, p⟩ fun h' eb => ⟨rfl, I.turned (t' := s.toks) (fun b o hb q => eb b o hb q) f0 f1 f3 f4 f5⟩
  self := fun A i s Q E st h => let ⟨⟨_, he⟩, _⟩ := st; wpAny_pyIter_enum he h
/-- zip(a, b), enumerate(a) of lists and tuples -/
def iZp (K : PySem.W.Frag) (ta : TA) : TI := fun σ H R => ta σ H fun vs H1 => ∃ k1 k2 a b xs ys, vs = [.ref a, .ref b] ∧ SqK k1 K H1 a xs ∧ SqK k2 K H1 b ys ∧ R (ItZ K k1 k2 a b) H1
def iEn (K : PySem.W.Frag) (ta : TA) : TI := fun σ H R => ta σ H fun vs H1 => ∃ k a xs, vs = [.ref a] ∧ SqK k K H1 a xs ∧ R (ItE K k a) H1
theorem pi_zp {X : Cx} {e e2 : Expr} {ta : TA} {p pos tpos : Pos} {elts : List Expr} {kk : Nat} (hg : Gl X "zip") (hm : X.mg "zip" = none) (ha : PA X [e, e2] ta)
    (hs : starEach [e, e2] X.env = (false, eval e X.env) :: starEach [e2] X.env := by rfl) (hpl : (backTo pos (starEach [e2] X.env)).any (·.1) = false := by rfl) :
    PI X (.Tuple elts kk tpos) (.Call (.Name "zip" p) [e, e2] [] pos) (iZp X.K ta) := by
  refine ⟨fun pins s σ H R I h => ?_⟩
  refine Call_ (ld_blt I hg hm PyProof.Rows.boot_zip (PyProof.Rows.callWith_type1 (thn (ha.run pos pins s σ H _ I h) fun us s1 ⟨vs, H1, I1, r1, q1⟩ => ?_) hs hpl))
  obtain ⟨k1, k2, a, b, xs, ys, ex, hqx, hqy, q⟩ := q1
  subst ex
  cases r1 with
  | cons r rr =>
    cases rr with
    | cons r' rr =>
      cases rr
      cases r
      cases r'
      obtain ⟨its, rv, p1, la⟩ := inv_k I1 hqx
      obtain ⟨its2, rv2, p2, lb⟩ := inv_k I1 hqy
      refine zip_begins2 (begins_k k1 a its.toArray) (begins_k k2 b its2.toArray) p1 p2 fun h' hz hTI hTO h1 h2 hsz hk => wpAny_pyIter_zip hz ?_
      have I2 : Inv X pins σ H1 { s1 with heap := h' } := I1.kept (t' := s1.toks) hk
      refine ⟨s1.heap.objs.size + 4, [s1.heap.objs.size + 4, s1.heap.objs.size + 2, s1.heap.objs.size + 3, s1.heap.objs.size, s1.heap.objs.size + 1], _, _, H1, rfl, I2, turn_z (k1 := k1) (k2 := k2) (PySem.W.ktu_apart s1.heap.objs.size a b la lb), ⟨hz, hTI, ⟨_, _, hTO⟩, itK_new h1, itK_new h2⟩, fun c hcm => ?_, q⟩
      have e' : c = s1.heap.objs.size + 4 ∨ c = s1.heap.objs.size + 2 ∨ c = s1.heap.objs.size + 3 ∨ c = s1.heap.objs.size ∨ c = s1.heap.objs.size + 1 := by simpa using hcm
      have hle : s1.heap.objs.size ≤ c := by
        rcases e' with z | z | z | z | z
        · rw [z]; exact Nat.le_add_right _ _
        · rw [z]; exact Nat.le_add_right _ _
        · rw [z]; exact Nat.le_add_right _ _
        · rw [z]; exact Nat.le_refl _
        · rw [z]; exact Nat.le_add_right _ _
      exact I1.fpOk hle (I1.hok.fresh hle)
theorem pi_en {X : Cx} {e : Expr} {ta : TA} {p pos tpos : Pos} {elts : List Expr} {kk : Nat} (hg : Gl X "enumerate") (hm : X.mg "enumerate" = none) (ha : PA X [e] ta) (hs : starEach [e] X.env = [(false, eval e X.env)] := by rfl) :
    PI X (.Tuple elts kk tpos) (.Call (.Name "enumerate" p) [e] [] pos) (iEn X.K ta) := by
  refine ⟨fun pins s σ H R I h => ?_⟩
  refine Call_ (ld_blt I hg hm boot_enumerate (PyProof.Rows.callWith_type1 (thn (ha.run pos pins s σ H _ I h) fun us s1 ⟨vs, H1, I1, r1, q1⟩ => ?_) hs rfl))
  obtain ⟨k, a, xs, ex, hq, q⟩ := q1
  subst ex
  cases r1 with
  | cons r rr =>
    cases rr
    cases r
    obtain ⟨its, rv, p', la⟩ := inv_k I1 hq
    refine enum_begins1 (begins_k k a its.toArray) p' fun h' he hit hsz hk => wpAny_pyIter_enum he ?_
    have I2 : Inv X pins σ H1 { s1 with heap := h' } := I1.kept (t' := s1.toks) hk
    refine ⟨s1.heap.objs.size + 1, [s1.heap.objs.size + 1, s1.heap.objs.size], _, _, H1, rfl, I2, turn_e (k := k) (Nat.succ_ne_self _) (Nat.ne_of_lt (Nat.lt_succ_of_lt la)) (Nat.ne_of_lt la), ⟨⟨.none, he⟩, itK_new hit⟩, fun b hb => ?_, q⟩
    have e' : b = s1.heap.objs.size + 1 ∨ b = s1.heap.objs.size := by simpa using hb
    have hle : s1.heap.objs.size ≤ b := by
      rcases e' with z | z
      · rw [z]; exact Nat.le_add_right _ _
      · rw [z]; exact Nat.le_refl _
    exact I1.fpOk hle (I1.hok.fresh hle)
end Dm

set_option Elab.async false
set_option linter.all false
set_option maxRecDepth 100000
set_option maxHeartbeats 4000000
set_option autoImplicit false
/-! Do: what the kind-free rules give, over data. -/
namespace Dm
open PySem L2 Evl StX PyProof.Rows
variable {K : PySem.W.Frag}
theorem sz_line {n : Nat} (h : n ≤ 1000000) : n ≤ sizeLine := Nat.le_trans h (by decide)
/-! ### + - * // % ** -/
theorem d_add {i j : Int} : R2D K (uAdd K) (.int i) (.int j) (.int (i + j)) := fun F H x y e hx hy Q q => .inl ⟨i, j, hx, hy, q _ F H (.refl e) rfl⟩
theorem d_addS {a b : Str} (h : a.length + b.length ≤ 1000000) : R2D K (uAdd K) (.str a) (.str b) (.str (a ++ b)) := fun F H x y e hx hy Q q => .inr (.inl ⟨a, b, hx, hy, sz_line h, q _ F H (.refl e) rfl⟩)
theorem d_addL {as bs : List D} (h : as.length + bs.length ≤ 100000) : R2D K (uAdd K) (.lst as) (.lst bs) (.lst (as ++ bs)) := fun F H x y e ⟨a, xs, hx, ha, ra⟩ ⟨b, ys, hy, hb, rb⟩ Q q =>
  .inr (.inr (.inl ⟨a, b, xs, ys, hx, hy, e _ _ ha, e _ _ hb, sz_of (by rw [ra.len, rb.len]; exact h), fun p hp => q _ _ _ (.new e hp) ⟨p, _, rfl, upd_same, (ra.append rb).mono (Up.new (o := .lst (xs ++ ys)) e hp).f⟩⟩))
theorem d_addT {as bs : List D} (h : as.length + bs.length ≤ 100000) : R2D K (uAdd K) (.tup as) (.tup bs) (.tup (as ++ bs)) := fun F H x y e ⟨a, xs, hx, ha, ra⟩ ⟨b, ys, hy, hb, rb⟩ Q q =>
  .inr (.inr (.inr ⟨a, b, xs, ys, hx, hy, st_of (e _ _ ha), st_of (e _ _ hb), sz_of (by rw [ra.len, rb.len]; exact h), fun h0 => q _ F H (.refl e) (by
      subst h0
      have : as = [] := List.eq_nil_of_length_eq_zero (by rw [← ra.len]; rfl)
      subst this
      exact ⟨b, ys, rfl, hb, rb⟩), fun _ h1 => q _ F H (.refl e) (by
      subst h1
      have : bs = [] := List.eq_nil_of_length_eq_zero (by rw [← rb.len]; rfl)
      subst this
      rw [List.append_nil]
      exact ⟨a, xs, rfl, ha, ra⟩), fun _ _ p hp => q _ _ _ (.new e hp) ⟨p, _, rfl, upd_same, (ra.append rb).mono (Up.new (o := .tup (xs ++ ys)) e hp).f⟩⟩))
theorem d_sub {i j : Int} : R2D K uSub (.int i) (.int j) (.int (i - j)) := fun F H x y e hx hy Q q => ⟨i, j, hx, hy, q _ F H (.refl e) rfl⟩
theorem d_mul {i j : Int} (h : i.natAbs.log2 + j.natAbs.log2 < 1000000) : R2D K (uMul K) (.int i) (.int j) (.int (i * j)) := fun F H x y e hx hy Q q => .inl ⟨i, j, hx, hy, h, q _ F H (.refl e) rfl⟩
theorem d_div {i j : Int} (h : 0 < j) (h2 : j.natAbs.log2 < 9000) : R2D K uDiv (.int i) (.int j) (.int (i / j)) := fun F H x y e hx hy Q q => ⟨i, j, hx, hy, ⟨h, h2⟩, q _ F H (.refl e) rfl⟩
theorem d_mod {i j : Int} (h : 0 < j) : R2D K uMod (.int i) (.int j) (.int (i % j)) := fun F H x y e hx hy Q q => ⟨i, j, hx, hy, h, q _ F H (.refl e) rfl⟩
theorem d_pow {i j : Int} (h : 0 ≤ j) (h2 : (Builtin.Int.intBits i : Int) * j ≤ 2 ^ 27) : R2D K uPow (.int i) (.int j) (.int (i ^ j.toNat)) := fun F H x y e hx hy Q q => ⟨i, j, hx, hy, ⟨h, h2⟩, q _ F H (.refl e) rfl⟩
/-! ### comparisons -/
theorem d_lt {i j : Int} : R2D K uLt (.int i) (.int j) (.bl (decide (i < j))) := fun F H x y e hx hy Q q => ⟨i, j, hx, hy, q _ F H (.refl e) rfl⟩
theorem d_le {i j : Int} : R2D K uLe (.int i) (.int j) (.bl (decide (i ≤ j))) := fun F H x y e hx hy Q q => ⟨i, j, hx, hy, q _ F H (.refl e) rfl⟩
theorem d_gt {i j : Int} : R2D K uGt (.int i) (.int j) (.bl (decide (j < i))) := fun F H x y e hx hy Q q => ⟨i, j, hx, hy, q _ F H (.refl e) rfl⟩
theorem d_ge {i j : Int} : R2D K uGe (.int i) (.int j) (.bl (decide (j ≤ i))) := fun F H x y e hx hy Q q => ⟨i, j, hx, hy, q _ F H (.refl e) rfl⟩
theorem d_eqI {i j : Int} : R2D K (uEq K) (.int i) (.int j) (.bl (decide (i = j))) := fun F H x y e hx hy Q q => .inl (by
  rw [show x = .int i from hx, show y = .int j from hy]
  exact ⟨rfl, q _ F H (.refl e) (by simp [Rep])⟩)
theorem d_eqS {i j : Str} : R2D K (uEq K) (.str i) (.str j) (.bl (decide (i = j))) := fun F H x y e hx hy Q q => .inl (by
  rw [show x = .str i from hx, show y = .str j from hy]
  exact ⟨rfl, q _ F H (.refl e) (by simp [Rep])⟩)
theorem d_eqB {i j : Bool} : R2D K (uEq K) (.bl i) (.bl j) (.bl (decide (i = j))) := fun F H x y e hx hy Q q => .inl (by
  rw [show x = .bl i from hx, show y = .bl j from hy]
  exact ⟨rfl, q _ F H (.refl e) (by simp [Rep])⟩)
theorem d_neI {i j : Int} : R2D K (uNe K) (.int i) (.int j) (.bl (decide (i ≠ j))) := fun F H x y e hx hy Q q => .inl (by
  rw [show x = .int i from hx, show y = .int j from hy]
  exact ⟨rfl, q _ F H (.refl e) (by simp [Rep])⟩)
theorem d_neS {i j : Str} : R2D K (uNe K) (.str i) (.str j) (.bl (decide (i ≠ j))) := fun F H x y e hx hy Q q => .inl (by
  rw [show x = .str i from hx, show y = .str j from hy]
  exact ⟨rfl, q _ F H (.refl e) (by simp [Rep])⟩)
theorem d_neB {i j : Bool} : R2D K (uNe K) (.bl i) (.bl j) (.bl (decide (i ≠ j))) := fun F H x y e hx hy Q q => .inl (by
  rw [show x = .bl i from hx, show y = .bl j from hy]
  exact ⟨rfl, q _ F H (.refl e) (by simp [Rep])⟩)
/-! data at depth -/
mutual
def D.py : D → PyData
  | .bl b => .bool b | .int i => .int i | .str x => .str x | .tup ds => .tuple (D.pys ds) | .lst ds => .list (D.pys ds) | _ => .none
def D.pys : List D → List PyData
  | [] => []
  | d :: ds => d.py :: D.pys ds
end
mutual
def D.pure : D → Bool
  | .non => true | .bl _ => true | .int _ => true | .str _ => true | .tup ds => D.pures ds | .lst ds => D.pures ds | _ => false
def D.pures : List D → Bool
  | [] => true
  | d :: ds => d.pure && D.pures ds
end
mutual
theorem Rep.dp {F H : Hp} (e : Ex F H) : ∀ (d : D) (v : V), d.pure = true → Rep K F d v → Dp K H v d.py
  | .non, v, _, h => by cases (show v = V.non from h); exact .non
  | .bl b, v, _, h => by cases (show v = V.bl b from h); exact .bl _
  | .int b, v, _, h => by cases (show v = V.int b from h); exact .int _
  | .str b, v, _, h => by cases (show v = V.str b from h); exact .str _
  | .tup ds, v, p, ⟨a, vs, h1, h2, h3⟩ => by rw [h1]; exact .tup (st_of (e _ _ h2)) (RepL.dp e ds vs p h3)
  | .ktup _, _, p, _ => nomatch p
  | .lst ds, v, p, ⟨a, vs, h1, h2, h3⟩ => by rw [h1]; exact .lst (.inl (.inl (e _ _ h2))) (RepL.dp e ds vs p h3)
  | .scr _, _, p, _ => nomatch p
  | .obj _ _ _, _, p, _ => nomatch p
  | .dic _ _, _, p, _ => nomatch p
  | .dil _ _, _, p, _ => nomatch p
  | .rf, _, p, _ => nomatch p
  | .dit _ _, _, p, _ => nomatch p
  | .ty _, _, p, _ => nomatch p
  | .adr _, _, p, _ => nomatch p
theorem RepL.dp {F H : Hp} (e : Ex F H) : ∀ (ds : List D) (vs : List V), D.pures ds = true → RepL K F ds vs → DpAll K H vs (D.pys ds)
  | [], vs, _, h => by cases (show vs = [] from h); exact .nil
  | d :: ds, vs, p, ⟨w, ws, h1, h2, h3⟩ => by
    have p : (d.pure && D.pures ds) = true := p
    have p := Bool.and_eq_true_iff.mp p
    rw [h1]; exact .cons (Rep.dp e d w p.1 h2) (RepL.dp e ds ws p.2 h3)
end
theorem d_eqD {a b : D} (pa : a.pure = true) (pb : b.pure = true) (sa : SeqAt.shaped a.py = true) (sb : SeqAt.shaped b.py = true) : R2D K (uEq K) a b (.bl (PyData.eqv a.py b.py)) := fun F H x y e hx hy Q q =>
  .inr (.inl ⟨a.py, b.py, Rep.dp e a x pa hx, Rep.dp e b y pb hy, sa, sb, q _ F H (.refl e) rfl⟩)
theorem d_neD {a b : D} (pa : a.pure = true) (pb : b.pure = true) (sa : SeqAt.shaped a.py = true) (sb : SeqAt.shaped b.py = true) : R2D K (uNe K) a b (.bl (!PyData.eqv a.py b.py)) := fun F H x y e hx hy Q q =>
  .inr (.inl ⟨a.py, b.py, Rep.dp e a x pa hx, Rep.dp e b y pb hy, sa, sb, q _ F H (.refl e) rfl⟩)
/-- is -/
def D.isN : D → Bool
  | .non => true
  | _ => false
theorem isN_of {F : Hp} {a : D} {x : V} (hx : Rep K F a x) : decide (x = V.non) = a.isN := by
  cases a with
  | non => cases (show x = .non from hx); rfl
  | bl b => cases (show x = .bl b from hx); rfl
  | int b => cases (show x = .int b from hx); rfl
  | str b => cases (show x = .str b from hx); rfl
  | tup ds => obtain ⟨a, vs, rfl, _⟩ := hx; rfl
  | ktup ds => obtain ⟨a, vs, rfl, _⟩ := hx; rfl
  | lst ds => obtain ⟨a, vs, rfl, _⟩ := hx; rfl
  | scr ds => obtain ⟨a, rfl, _⟩ := hx; rfl
  | obj _ _ _ => obtain ⟨a, _, _, rfl, _⟩ := hx; rfl
  | dic _ _ => obtain ⟨a, _, rfl, _⟩ := hx; rfl
  | dil _ _ => obtain ⟨a, _, rfl, _⟩ := hx; rfl
  | rf => obtain ⟨a, rfl⟩ := hx; rfl
  | dit _ _ => obtain ⟨a, _, rfl, _⟩ := hx; rfl
  | ty b => cases (show x = .ty b from hx); rfl
  | adr b => cases (show x = .ref b from hx); rfl
theorem d_isN {a : D} : R2D K uIs a .non (.bl a.isN) := fun F H x y e hx hy Q q => .inl ⟨hy, by
  rw [isN_of hx]
  exact q _ F H (.refl e) rfl⟩
theorem d_ntN {a : D} : R2D K uNt a .non (.bl !a.isN) := fun F H x y e hx hy Q q => .inl ⟨hy, by
  rw [isN_of hx]
  exact q _ F H (.refl e) rfl⟩
theorem d_ntB {a b : Bool} : R2D K uNt (.bl a) (.bl b) (.bl (!decide (a = b))) := fun F H x y e hx hy Q q => .inr ⟨a, b, hx, hy, q _ F H (.refl e) rfl⟩
theorem d_isB {a b : Bool} : R2D K uIs (.bl a) (.bl b) (.bl (decide (a = b))) := fun F H x y e hx hy Q q => .inr ⟨a, b, hx, hy, q _ F H (.refl e) rfl⟩
theorem d_neg {i : Int} : R1D K (rU fun i => .int (-i)) (.int i) (.int (-i)) := fun F H x e hx Q q => ⟨i, hx, q _ F H (.refl e) rfl⟩
/-! ### in -/
theorem inV_str {p : Str} : ∀ {ns : List Str}, inV (.str p) (ns.map V.str) = decide (p ∈ ns)
  | [] => by simp [inV]
  | n :: ns => by
    have ih := inV_str (p := p) (ns := ns)
    unfold inV at ih ⊢
    rw [List.map_cons, List.any_cons, ih]
    show ((n == p) || decide (p ∈ ns)) = decide (p ∈ n :: ns)
    by_cases h : n = p
    · simp [h]
    · have h' : ¬ p = n := fun z => h z.symm
      simp [h, h']
theorem inV_int {p : Int} : ∀ {ns : List Int}, inV (.int p) (ns.map V.int) = decide (p ∈ ns)
  | [] => by simp [inV]
  | n :: ns => by
    have ih := inV_int (p := p) (ns := ns)
    unfold inV at ih ⊢
    rw [List.map_cons, List.any_cons, ih]
    show ((n == p) || decide (p ∈ ns)) = decide (p ∈ n :: ns)
    by_cases h : n = p
    · simp [h]
    · have h' : ¬ p = n := fun z => h z.symm
      simp [h, h']
theorem flat_strs {ns : List Str} : (ns.map V.str).all flatV = true := by
  rw [List.all_eq_true]
  intro x hx
  obtain ⟨n, _, rfl⟩ := List.mem_map.mp hx
  rfl
theorem flat_ints {ns : List Int} : (ns.map V.int).all flatV = true := by
  rw [List.all_eq_true]
  intro x hx
  obtain ⟨n, _, rfl⟩ := List.mem_map.mp hx
  rfl
theorem d_inS {p : Str} {ns : List Str} : R2D K (uIn K) (.str p) (.lst (ns.map .str)) (.bl (decide (p ∈ ns))) := fun F H x y e hx ⟨a, vs, hy, ha, ra⟩ Q q => .inl (by
  rw [show x = .str p from hx]
  refine ⟨a, vs, hy, .inl (sq_of (e _ _ ha)), rfl, ?_, q _ F H (.refl e) ?_⟩
  · rw [RepL.strs ra]; exact flat_strs
  · rw [RepL.strs ra, inV_str]; rfl)
theorem d_inST {p : Str} {ns : List Str} : R2D K (uIn K) (.str p) (.tup (ns.map .str)) (.bl (decide (p ∈ ns))) := fun F H x y e hx ⟨a, vs, hy, ha, ra⟩ Q q => .inl (by
  rw [show x = .str p from hx]
  refine ⟨a, vs, hy, .inr (st_of (e _ _ ha)), rfl, ?_, q _ F H (.refl e) ?_⟩
  · rw [RepL.strs ra]; exact flat_strs
  · rw [RepL.strs ra, inV_str]; rfl)
theorem d_niS {p : Str} {ns : List Str} : R2D K (uNi K) (.str p) (.lst (ns.map .str)) (.bl (!decide (p ∈ ns))) := fun F H x y e hx ⟨a, vs, hy, ha, ra⟩ Q q => .inl (by
  rw [show x = .str p from hx]
  refine ⟨a, vs, hy, .inl (sq_of (e _ _ ha)), rfl, ?_, q _ F H (.refl e) ?_⟩
  · rw [RepL.strs ra]; exact flat_strs
  · rw [RepL.strs ra, inV_str]; rfl)
theorem d_niST {p : Str} {ns : List Str} : R2D K (uNi K) (.str p) (.tup (ns.map .str)) (.bl (!decide (p ∈ ns))) := fun F H x y e hx ⟨a, vs, hy, ha, ra⟩ Q q => .inl (by
  rw [show x = .str p from hx]
  refine ⟨a, vs, hy, .inr (st_of (e _ _ ha)), rfl, ?_, q _ F H (.refl e) ?_⟩
  · rw [RepL.strs ra]; exact flat_strs
  · rw [RepL.strs ra, inV_str]; rfl)
theorem d_inG {c : Nat} {z : Str} : R2D K (uIn K) (.str ⟨#[c]⟩) (.str z) (.bl (decide (c ∈ z.cps.toList))) := fun F H x y e hx hy Q q => .inr (.inl ⟨c, z, hx, hy, q _ F H (.refl e) rfl⟩)
theorem d_niG {c : Nat} {z : Str} : R2D K (uNi K) (.str ⟨#[c]⟩) (.str z) (.bl (!decide (c ∈ z.cps.toList))) := fun F H x y e hx hy Q q => .inr (.inl ⟨c, z, hx, hy, q _ F H (.refl e) rfl⟩)
/-! ### a[b] -/
theorem atI_rep {H : Hp} {ds : List D} {vs : List V} {i : Int} {d : D} (r : RepL K H ds vs) (h : atI ds i = some d) : ∃ v, atI vs i = some v ∧ Rep K H d v := by
  unfold atI at h ⊢
  rw [r.len]
  cases hx : ixN ds.length i with
  | none => rw [hx] at h; cases h
  | some j =>
    rw [hx] at h
    exact r.get (show ds[j]? = some d from h)
theorem d_ixL {ds : List D} {i : Int} {d : D} (h : atI ds i = some d) : R2D K (uIx K) (.lst ds) (.int i) d := fun F H x y e ⟨a, vs, hx, ha, ra⟩ hy Q q => by
  obtain ⟨v, hv, rv⟩ := atI_rep ra h
  exact .inl (.inl ⟨a, vs, i, v, hx, hy, sq_of (e _ _ ha), hv, q v F H (.refl e) rv⟩)
theorem d_ixT {ds : List D} {i : Int} {d : D} (h : atI ds i = some d) : R2D K (uIx K) (.tup ds) (.int i) d := fun F H x y e ⟨a, vs, hx, ha, ra⟩ hy Q q => by
  obtain ⟨v, hv, rv⟩ := atI_rep ra h
  exact .inl (.inr (.inl ⟨a, vs, i, v, hx, hy, st_of (e _ _ ha), hv, q v F H (.refl e) rv⟩))
theorem d_ixS {z : Str} {i : Int} {c : Nat} (hz : z.length ≤ 100000) (h : atI z.cps.toList i = some c) : R2D K (uIx K) (.str z) (.int i) (.str ⟨#[c]⟩) := fun F H x y e hx hy Q q =>
  .inl (.inr (.inr ⟨z, i, c, hx, hy, sz_of hz, h, q _ F H (.refl e) rfl⟩))
theorem d_ixR {ns : List Int} {i : Int} {n : Int} (h : atI ns i = some n) : R2D K (uIx K) (.scr ns) (.int i) (.int n) := fun F H x y e ⟨a, hx, ha⟩ hy Q q => by
  refine .inl (.inl ⟨a, ns.map V.int, i, .int n, hx, hy, ex_l e ha, ?_, q _ F H (.refl e) rfl⟩)
  unfold atI at h ⊢
  rw [List.length_map]
  cases hx : ixN ns.length i with
  | none => rw [hx] at h; cases h
  | some j =>
    rw [hx] at h
    show (ns.map V.int)[j]? = some (V.int n)
    rw [List.getElem?_map, show ns[j]? = some n from h]; rfl
/-- what a dict's entries tell at a key -/
def dlk : List Key → List D → Key → Option D
  | k :: ks, d :: ds, x => if k = x then some d else dlk ks ds x
  | _, _, _ => none
theorem zip_val {H : Hp} {k : Key} : ∀ {ks : List Key} {ds : List D} {vs : List V} {d : D}, RepL K H ds vs → dlk ks ds k = some d → ∃ v, valV (ks.zip vs) k = some v ∧ Rep K H d v
  | [], ds, _, _, _, h => by simp [dlk] at h
  | n :: ks, [], _, _, _, h => by simp [dlk] at h
  | n :: ks, o :: ds, _, d, ⟨w, ws, h1, r1, r2⟩, h => by
    subst h1
    rw [List.zip_cons_cons]
    have h : (if n = k then some o else dlk ks ds k) = some d := h
    by_cases hb : n = k
    · rw [if_pos hb] at h
      cases h
      exact ⟨w, valV_pos hb, r1⟩
    · rw [if_neg hb] at h
      obtain ⟨v, hv, rv⟩ := zip_val r2 h
      exact ⟨v, by rw [valV_neg hb]; exact hv, rv⟩
theorem zip_no {H : Hp} {k : Key} : ∀ {ks : List Key} {ds : List D} {vs : List V}, RepL K H ds vs → ks.length = vs.length → dlk ks ds k = none → valV (ks.zip vs) k = none
  | [], ds, _, _, _, h => rfl
  | n :: ks, [], _, r, l, h => by cases (show _ = [] from r); simp at l
  | n :: ks, o :: ds, _, ⟨w, ws, h1, r1, r2⟩, l, h => by
    subst h1
    rw [List.zip_cons_cons]
    have h : (if n = k then some o else dlk ks ds k) = none := h
    by_cases hb : n = k
    · rw [if_pos hb] at h; cases h
    · rw [if_neg hb] at h
      rw [valV_neg hb]
      exact zip_no r2 (by simpa using l) h
theorem d_ixDs {ks : List Key} {ds : List D} {k : Str} {d : D} (h : dlk ks ds (Sum.inr k) = some d) : R2D K (uIx K) (.dic ks ds) (.str k) d := fun F H x y e ⟨a, vs, hx, ha, hl, ra⟩ hy Q q => by
  obtain ⟨v, hv, rv⟩ := zip_val ra h
  exact .inr ⟨a, v, hx, .inl ⟨_, Sum.inr k, (.inl (e _ _ ha)), hy, hv.symm⟩, q v F H (.refl e) rv⟩
theorem d_inD {ks : List Key} {ds : List D} {k : Str} (hn : ks.length = ds.length) : R2D K (uIn K) (.str k) (.dic ks ds) (.bl (dlk ks ds (Sum.inr k)).isSome) := fun F H y x e hy ⟨a, vs, hx, ha, hl, ra⟩ Q q => by
  refine .inr (.inr ⟨a, valV (ks.zip vs) (Sum.inr k), hx, .inl ⟨_, Sum.inr k, (.inl (e _ _ ha)), hy, rfl⟩, q _ F H (.refl e) ?_⟩)
  cases h : dlk ks ds (Sum.inr k) with
  | none => rw [zip_no ra hl h]; rfl
  | some d => obtain ⟨v, hv, _⟩ := zip_val ra h; rw [hv]; rfl
theorem d_niD {ks : List Key} {ds : List D} {k : Str} (hn : ks.length = ds.length) : R2D K (uNi K) (.str k) (.dic ks ds) (.bl (!(dlk ks ds (Sum.inr k)).isSome)) := fun F H y x e hy ⟨a, vs, hx, ha, hl, ra⟩ Q q => by
  refine .inr (.inr ⟨a, valV (ks.zip vs) (Sum.inr k), hx, .inl ⟨_, Sum.inr k, (.inl (e _ _ ha)), hy, rfl⟩, q _ F H (.refl e) ?_⟩)
  cases h : dlk ks ds (Sum.inr k) with
  | none => rw [zip_no ra hl h]; rfl
  | some d => obtain ⟨v, hv, _⟩ := zip_val ra h; rw [hv]; rfl
/-! ### built-ins -/
theorem d_lenL {ds : List D} : RAD K (uLen K) [.lst ds] (.int (ds.length : Nat)) := fun F H vs e ⟨w, ws, h1, ⟨a, us, h2, ha, ra⟩, h3⟩ Q q => .inl ⟨w, us.length, by rw [h1, show ws = [] from h3], by rw [h2]; exact .inl ⟨us, sq_of (e _ _ ha), rfl⟩, q _ F H (.refl e) (by rw [ra.len]; rfl)⟩
theorem d_lenT {ds : List D} : RAD K (uLen K) [.tup ds] (.int (ds.length : Nat)) := fun F H vs e ⟨w, ws, h1, ⟨a, us, h2, ha, ra⟩, h3⟩ Q q => .inl ⟨w, us.length, by rw [h1, show ws = [] from h3], by rw [h2]; exact .inr ⟨us, st_of (e _ _ ha), rfl⟩, q _ F H (.refl e) (by rw [ra.len]; rfl)⟩
theorem d_lenR {ns : List Int} : RAD K (uLen K) [.scr ns] (.int (ns.length : Nat)) := fun F H vs e ⟨w, ws, h1, ⟨a, h2, ha⟩, h3⟩ Q q => .inl ⟨w, ns.length, by rw [h1, show ws = [] from h3], by rw [h2]; exact .inl ⟨_, ex_l e ha, by simp⟩, q _ F H (.refl e) rfl⟩
theorem d_lenS {z : Str} (h : z.length ≤ 100000) : RAD K (uLen K) [.str z] (.int (z.length : Nat)) := fun F H vs e ⟨w, ws, h1, h2, h3⟩ Q q => .inl ⟨w, z.length, by rw [h1, show ws = [] from h3], by rw [show w = .str z from h2]; exact ⟨sz_of h, rfl⟩, q _ F H (.refl e) rfl⟩
theorem d_lenD {ks : List Key} {ds : List D} : RAD K (uLen K) [.dic ks ds] (.int (ks.length : Nat)) := fun F H vs e ⟨w, ws, h1, ⟨a, us, h2, ha, hl, ra⟩, h3⟩ Q q => .inr ⟨a, _, by rw [h1, show ws = [] from h3, h2], (.inl (e _ _ ha)), q _ F H (.refl e) (by rw [List.length_zip, ← hl, Nat.min_self]; rfl)⟩
theorem d_sum {ns : List Int} : RAD K (rSum K) [.lst (ns.map .int)] (.int ns.sum) := fun F H vs e ⟨w, ws, h1, ⟨a, us, h2, ha, ra⟩, h3⟩ Q q => ⟨a, ns, by rw [h1, show ws = [] from h3, h2], by rw [← RepL.ints ra]; exact sq_of (e _ _ ha), q _ F H (.refl e) rfl⟩
theorem d_all {bs : List Bool} : RAD K (rAll K) [.lst (bs.map .bl)] (.bl (bs.all id)) := fun F H vs e ⟨w, ws, h1, ⟨a, us, h2, ha, ra⟩, h3⟩ Q q => ⟨a, bs, by rw [h1, show ws = [] from h3, h2], by rw [← RepL.bls ra]; exact sq_of (e _ _ ha), q _ F H (.refl e) rfl⟩
theorem d_any {bs : List Bool} : RAD K (rAny K) [.lst (bs.map .bl)] (.bl (bs.any id)) := fun F H vs e ⟨w, ws, h1, ⟨a, us, h2, ha, ra⟩, h3⟩ Q q => ⟨a, bs, by rw [h1, show ws = [] from h3, h2], by rw [← RepL.bls ra]; exact sq_of (e _ _ ha), q _ F H (.refl e) rfl⟩
/-- the greatest, the least -/
def mxL : List Int → Int
  | [] => 0
  | [a] => a
  | a :: b :: r => max a (mxL (b :: r))
def mnL : List Int → Int
  | [] => 0
  | [a] => a
  | a :: b :: r => min a (mnL (b :: r))
theorem mxL_mem : ∀ {l : List Int}, l ≠ [] → mxL l ∈ l
  | [], h => absurd rfl h
  | [a], _ => by simp [mxL]
  | a :: b :: r, _ => by
    have ih := mxL_mem (l := b :: r) (by simp)
    show max a (mxL (b :: r)) ∈ a :: b :: r
    by_cases h : a ≤ mxL (b :: r)
    · rw [Int.max_eq_right h]; exact List.mem_cons_of_mem _ ih
    · rw [Int.max_eq_left (by omega)]; exact List.mem_cons_self
theorem mxL_ge : ∀ {l : List Int} {y : Int}, y ∈ l → y ≤ mxL l
  | [a], y, h => by have : y = a := by simpa using h
                    subst this; exact Int.le_refl _
  | a :: b :: r, y, h => by
    show y ≤ max a (mxL (b :: r))
    rcases List.mem_cons.mp h with e | h
    · subst e; omega
    · have := mxL_ge (l := b :: r) h; omega
theorem mnL_mem : ∀ {l : List Int}, l ≠ [] → mnL l ∈ l
  | [], h => absurd rfl h
  | [a], _ => by simp [mnL]
  | a :: b :: r, _ => by
    have ih := mnL_mem (l := b :: r) (by simp)
    show min a (mnL (b :: r)) ∈ a :: b :: r
    by_cases h : a ≤ mnL (b :: r)
    · rw [Int.min_eq_left h]; exact List.mem_cons_self
    · rw [Int.min_eq_right (by omega)]; exact List.mem_cons_of_mem _ ih
theorem mnL_le : ∀ {l : List Int} {y : Int}, y ∈ l → mnL l ≤ y
  | [a], y, h => by have : y = a := by simpa using h
                    subst this; exact Int.le_refl _
  | a :: b :: r, y, h => by
    show min a (mnL (b :: r)) ≤ y
    rcases List.mem_cons.mp h with e | h
    · subst e; omega
    · have := mnL_le (l := b :: r) h; omega
theorem d_max {ns : List Int} (h0 : ns ≠ []) : RAD K (uMax K) [.lst (ns.map .int)] (.int (mxL ns)) := fun F H vs e ⟨w, ws, h1, ⟨a, us, h2, ha, ra⟩, h3⟩ Q q => .inl ⟨a, ns, by rw [h1, show ws = [] from h3, h2], by rw [← RepL.ints ra]; exact sq_of (e _ _ ha), List.length_pos_iff.mpr h0, fun m hm hle => by
  have : m = mxL ns := Int.le_antisymm (mxL_ge hm) (hle _ (mxL_mem h0))
  rw [this]
  exact q _ F H (.refl e) rfl⟩
theorem d_min {ns : List Int} (h0 : ns ≠ []) : RAD K (uMin K) [.lst (ns.map .int)] (.int (mnL ns)) := fun F H vs e ⟨w, ws, h1, ⟨a, us, h2, ha, ra⟩, h3⟩ Q q => .inl ⟨a, ns, by rw [h1, show ws = [] from h3, h2], by rw [← RepL.ints ra]; exact sq_of (e _ _ ha), List.length_pos_iff.mpr h0, fun m hm hle => by
  have : m = mnL ns := Int.le_antisymm (hle _ (mnL_mem h0)) (mnL_le hm)
  rw [this]
  exact q _ F H (.refl e) rfl⟩
theorem d_max2 {i j : Int} : RAD K (uMax K) [.int i, .int j] (.int (max i j)) := fun F H vs e ⟨w, ws, h1, h2, w2, ws2, h3, h4, h5⟩ Q q => .inr ⟨i, j, by rw [h1, h3, show ws2 = [] from h5, show w = .int i from h2, show w2 = .int j from h4], q _ F H (.refl e) (by
  show V.int (if j > i then j else i) = V.int (max i j)
  congr 1
  split <;> omega)⟩
theorem d_min2 {i j : Int} : RAD K (uMin K) [.int i, .int j] (.int (min i j)) := fun F H vs e ⟨w, ws, h1, h2, w2, ws2, h3, h4, h5⟩ Q q => .inr ⟨i, j, by rw [h1, h3, show ws2 = [] from h5, show w = .int i from h2, show w2 = .int j from h4], q _ F H (.refl e) (by
  show V.int (if j < i then j else i) = V.int (min i j)
  congr 1
  split <;> omega)⟩
theorem one_of {H : Hp} {d : D} {vs : List V} (h : RepL K H [d] vs) : ∃ w, vs = [w] ∧ Rep K H d w := by
  obtain ⟨w, ws, h1, h2, h3⟩ := h
  exact ⟨w, by rw [h1, show ws = [] from h3], h2⟩
theorem d_abs {i : Int} : RAD K rAbs [.int i] (.int (i.natAbs : Nat)) := fun F H vs e h Q q => by
  obtain ⟨w, rfl, h2⟩ := one_of h
  exact ⟨i, by rw [show w = .int i from h2], q _ F H (.refl e) (by
    show V.int (if i < 0 then -i else i) = V.int (i.natAbs : Nat)
    congr 1
    split <;> omega)⟩
theorem d_int {i : Int} : RAD K uInt [.int i] (.int i) := fun F H vs e h Q q => by
  obtain ⟨w, rfl, h2⟩ := one_of h
  exact .inl (.inl ⟨i, by rw [show w = .int i from h2], q _ F H (.refl e) rfl⟩)
theorem d_intB {b : Bool} : RAD K uInt [.bl b] (.int (if b then 1 else 0)) := fun F H vs e h Q q => by
  obtain ⟨w, rfl, h2⟩ := one_of h
  exact .inl (.inr ⟨b, by rw [show w = .bl b from h2], q _ F H (.refl e) rfl⟩)
theorem d_intS {z : Str} {n : Int} (hn : PySem.intText? z = some n) (hz : z.length ≤ 640) : RAD K uInt [.str z] (.int n) := fun F H vs e h Q q => by
  obtain ⟨w, rfl, h2⟩ := one_of h
  exact .inr ⟨z, n, by rw [show w = .str z from h2], hn, hz, q _ F H (.refl e) rfl⟩
theorem d_str {i : Int} (hi : i.natAbs.log2 < 1920) : RAD K rStrI [.int i] (.str (Str.ofString (toString i))) := fun F H vs e h Q q => by
  obtain ⟨w, rfl, h2⟩ := one_of h
  exact .inl ⟨i, by rw [show w = .int i from h2], hi, q _ F H (.refl e) rfl⟩
theorem d_strS {z : Str} : RAD K rStrI [.str z] (.str z) := fun F H vs e h Q q => by
  obtain ⟨w, rfl, h2⟩ := one_of h
  exact .inr ⟨z, by rw [show w = .str z from h2], q _ F H (.refl e) rfl⟩
theorem d_listL {ds : List D} : RAD K (uList K) [.lst ds] (.lst ds) := fun F H vs e h Q q => by
  obtain ⟨w, rfl, a, us, h2, ha, ra⟩ := one_of h
  exact .inl ⟨a, us, by rw [h2], .inl (sq_of (e _ _ ha)), fun p hp => q _ _ _ (.new e hp) ⟨p, us, rfl, upd_same, ra.mono (Up.new (o := .lst us) e hp).f⟩⟩
theorem d_listT {ds : List D} : RAD K (uList K) [.tup ds] (.lst ds) := fun F H vs e h Q q => by
  obtain ⟨w, rfl, a, us, h2, ha, ra⟩ := one_of h
  exact .inl ⟨a, us, by rw [h2], .inr (st_of (e _ _ ha)), fun p hp => q _ _ _ (.new e hp) ⟨p, us, rfl, upd_same, ra.mono (Up.new (o := .lst us) e hp).f⟩⟩
def kD : Key → D
  | .inl i => .int i
  | .inr x => .str x
theorem rep_keys {H : Hp} : ∀ {ks : List Key} {vs : List V}, ks.length = vs.length → RepL K H (ks.map kD) ((ks.zip vs).map fun kv => kV kv.1)
  | [], _, _ => rfl
  | k :: ks, [], h => by simp at h
  | k :: ks, v :: vs, h => ⟨_, _, rfl, by cases k <;> rfl, rep_keys (by simpa using h)⟩
theorem d_listD {ks : List Key} {ds : List D} : RAD K (uList K) [.dic ks ds] (.lst (ks.map kD)) := fun F H vs e h Q q => by
  obtain ⟨w, rfl, a, us, h2, ha, hl, ra⟩ := one_of h
  exact .inr ⟨a, _, by rw [h2], (.inl (e _ _ ha)), fun p hp => q _ _ _ (.new e hp) ⟨p, _, rfl, upd_same, rep_keys hl⟩⟩
theorem d_tupL {ds : List D} : RAD K (rTupS K) [.lst ds] (.tup ds) := fun F H vs e h Q q => by
  obtain ⟨w, rfl, a, us, h2, ha, ra⟩ := one_of h
  exact ⟨a, us, by rw [h2], .inl ⟨sq_of (e _ _ ha), fun p hp => q _ _ _ (.new e hp) ⟨p, us, rfl, upd_same, ra.mono (Up.new (o := .tup us) e hp).f⟩⟩⟩
/-- sorted ints -/
def srt (ns : List Int) : List Int := ns.mergeSort fun a b => decide (a ≤ b)
theorem srt_perm (ns : List Int) : (srt ns).Perm ns := List.mergeSort_perm _ _
theorem srt_pw (ns : List Int) : (srt ns).Pairwise (· ≤ ·) := by
  have h := List.pairwise_mergeSort (le := fun a b : Int => decide (a ≤ b)) (by intro a b c h1 h2; simp at h1 h2 ⊢; omega) (by intro a b; simp; omega) ns
  exact h.imp (by intro a b h; simpa using h)
theorem srt_unique {ns ns' : List Int} (hp : ns'.Perm ns) (hs : ns'.Pairwise (· ≤ ·)) : ns' = srt ns :=
  List.Perm.eq_of_pairwise (le := fun a b : Int => a ≤ b) (fun a b _ _ h1 h2 => Int.le_antisymm h1 h2) hs (srt_pw ns) (hp.trans (srt_perm ns).symm)
theorem d_sorted {ns : List Int} : RAD K (rSortedI K) [.lst (ns.map .int)] (.lst ((srt ns).map .int)) := fun F H vs e h Q q => by
  obtain ⟨w, rfl, a, us, h2, ha, ra⟩ := one_of h
  refine ⟨a, ns, by rw [h2], by rw [← RepL.ints ra]; exact sq_of (e _ _ ha), fun ns' p hp hs hn => ?_⟩
  rw [srt_unique hp hs]
  exact q _ _ _ (.new e hn) ⟨p, _, rfl, upd_same, RepL.of_ints⟩
/-- isinstance(x, T) -/
def D.kind : D → Option String
  | .non => some "NoneType" | .bl _ => some "bool" | .int _ => some "int" | .str _ => some "str" | .tup _ => some "tuple" | .lst _ => some "list" | _ => none
theorem tyx_of {F H : Hp} (e : Ex F H) {d : D} {v : V} {t : String} (r : Rep K F d v) (h : d.kind = some t) : TyX K H v (.type t) := by
  cases d with
  | non => cases h; rw [show v = .non from r]; exact .base .non
  | bl b => cases h; rw [show v = .bl b from r]; exact .base (.bl b)
  | int i => cases h; rw [show v = .int i from r]; exact .base (.int i)
  | str x => cases h; rw [show v = .str x from r]; exact .base (.str x)
  | tup ds =>
    cases h
    obtain ⟨a, vs, rfl, h2, _⟩ := r
    rcases st_of (e _ _ h2) with (z | ⟨o, z⟩) | ⟨o, its, n, z, c, _⟩
    · exact .base (.tup z)
    · exact .fTuple z
    · exact .kTuple z c
  | lst ds =>
    cases h
    obtain ⟨a, vs, rfl, h2, _⟩ := r
    exact .base (.lst (e _ _ h2))
  | _ => cases h
theorem d_isiTy {d : D} {t T : String} {b : Bool} (ht : d.kind = some t) (h : kitB t T = some b) : RAD K (rIsi K) [d, .ty T] (.bl b) := fun F H vs e ⟨w, ws, h1, h2, w2, ws2, h3, h4, h5⟩ Q q =>
  ⟨w, .ty T, .type t, .type T, b, by rw [h1, h3, show ws2 = [] from h5, show w2 = .ty T from h4], .ty T, tyx_of e h2 ht, kit_ty h, q _ F H (.refl e) rfl⟩
theorem eqv_ints {a b : Int} : eqV (.int a) (.int b) = decide (a = b) := by show (a == b) = _; rw [Bool.eq_iff_iff]; simp
theorem pures_strs : ∀ {ns : List Str}, D.pures (ns.map D.str) = true
  | [] => rfl
  | n :: ns => by rw [List.map_cons, D.pures, pures_strs]; rfl
theorem pures_ints : ∀ {ns : List Int}, D.pures (ns.map D.int) = true
  | [] => rfl
  | n :: ns => by rw [List.map_cons, D.pures, pures_ints]; rfl
theorem pys_strs : ∀ {ns : List Str}, D.pys (ns.map D.str) = ns.map PyData.str
  | [] => rfl
  | n :: ns => by rw [List.map_cons, D.pys, pys_strs]; rfl
theorem pys_ints : ∀ {ns : List Int}, D.pys (ns.map D.int) = ns.map PyData.int
  | [] => rfl
  | n :: ns => by rw [List.map_cons, D.pys, pys_ints]; rfl
theorem eqv_str {x y : Str} : PyData.eqv (.str x) (.str y) = decide (x = y) := by
  show (x == y) = _
  rw [Bool.eq_iff_iff]; simp
theorem eqv_int {x y : Int} : PyData.eqv (.int x) (.int y) = decide (x = y) := by
  show (x == y) = _
  rw [Bool.eq_iff_iff]; simp
theorem eqvAll_strs : ∀ {xs ys : List Str}, PyData.eqvAll (xs.map PyData.str) (ys.map PyData.str) = decide (xs = ys)
  | [], [] => rfl
  | [], _ :: _ => by simp [PyData.eqvAll]
  | _ :: _, [] => by simp [PyData.eqvAll]
  | x :: xs, y :: ys => by rw [List.map_cons, List.map_cons, PyData.eqvAll, eqvAll_strs, eqv_str]; simp
theorem eqvAll_ints : ∀ {xs ys : List Int}, PyData.eqvAll (xs.map PyData.int) (ys.map PyData.int) = decide (xs = ys)
  | [], [] => rfl
  | [], _ :: _ => by simp [PyData.eqvAll]
  | _ :: _, [] => by simp [PyData.eqvAll]
  | x :: xs, y :: ys => by rw [List.map_cons, List.map_cons, PyData.eqvAll, eqvAll_ints, eqv_int]; simp
theorem lay_strs : ∀ {xs : List Str}, (∀ x ∈ xs, PyData.strOk x = true) → PyData.canLayAll0 (xs.map PyData.str) = true
  | [], _ => rfl
  | x :: xs, h => by
    rw [List.map_cons, PyData.canLayAll0, lay_strs fun y hy => h y (List.mem_cons_of_mem _ hy), Bool.and_true]
    exact h x List.mem_cons_self
theorem lay_ints : ∀ {xs : List Int}, PyData.canLayAll0 (xs.map PyData.int) = true
  | [] => rfl
  | x :: xs => by rw [List.map_cons, PyData.canLayAll0, lay_ints]; rfl
theorem dep_strs : ∀ {xs : List Str}, PyData.depthAll (xs.map PyData.str) = 0
  | [] => rfl
  | x :: xs => by rw [List.map_cons, PyData.depthAll, dep_strs]; rfl
theorem dep_ints : ∀ {xs : List Int}, PyData.depthAll (xs.map PyData.int) = 0
  | [] => rfl
  | x :: xs => by rw [List.map_cons, PyData.depthAll, dep_ints]; rfl
theorem sh_ts {xs : List Str} (h : ∀ x ∈ xs, PyData.strOk x = true) : SeqAt.shaped (D.py (.tup (xs.map .str))) = true := by
  rw [D.py, pys_strs, SeqAt.shaped, PyData.canLay0, PyData.depth, dep_strs, lay_strs h]; rfl
theorem sh_ls {xs : List Str} (h : ∀ x ∈ xs, PyData.strOk x = true) : SeqAt.shaped (D.py (.lst (xs.map .str))) = true := by
  rw [D.py, pys_strs, SeqAt.shaped, PyData.canLay0, PyData.depth, dep_strs, lay_strs h]; rfl
theorem sh_ti {xs : List Int} : SeqAt.shaped (D.py (.tup (xs.map .int))) = true := by
  rw [D.py, pys_ints, SeqAt.shaped, PyData.canLay0, PyData.depth, dep_ints, lay_ints]; rfl
theorem sh_li {xs : List Int} : SeqAt.shaped (D.py (.lst (xs.map .int))) = true := by
  rw [D.py, pys_ints, SeqAt.shaped, PyData.canLay0, PyData.depth, dep_ints, lay_ints]; rfl
theorem r2_is {r : R2} {a b c c' : D} (h : R2D K r a b c) (e : c = c') : R2D K r a b c' := e ▸ h
theorem d_eqTS {xs ys : List Str} (hx : ∀ x ∈ xs, PyData.strOk x = true) (hy : ∀ x ∈ ys, PyData.strOk x = true) : R2D K (uEq K) (.tup (xs.map .str)) (.tup (ys.map .str)) (.bl (decide (xs = ys))) :=
  r2_is (d_eqD pures_strs pures_strs (sh_ts hx) (sh_ts hy)) (by rw [D.py, D.py, PyData.eqv, pys_strs, pys_strs, eqvAll_strs])
theorem d_eqLS {xs ys : List Str} (hx : ∀ x ∈ xs, PyData.strOk x = true) (hy : ∀ x ∈ ys, PyData.strOk x = true) : R2D K (uEq K) (.lst (xs.map .str)) (.lst (ys.map .str)) (.bl (decide (xs = ys))) :=
  r2_is (d_eqD pures_strs pures_strs (sh_ls hx) (sh_ls hy)) (by rw [D.py, D.py, PyData.eqv, pys_strs, pys_strs, eqvAll_strs])
theorem d_eqTI {xs ys : List Int} : R2D K (uEq K) (.tup (xs.map .int)) (.tup (ys.map .int)) (.bl (decide (xs = ys))) :=
  r2_is (d_eqD pures_ints pures_ints sh_ti sh_ti) (by rw [D.py, D.py, PyData.eqv, pys_ints, pys_ints, eqvAll_ints])
theorem d_neTI {xs ys : List Int} : R2D K (uNe K) (.tup (xs.map .int)) (.tup (ys.map .int)) (.bl (!decide (xs = ys))) :=
  r2_is (d_neD pures_ints pures_ints sh_ti sh_ti) (by rw [D.py, D.py, PyData.eqv, pys_ints, pys_ints, eqvAll_ints])
theorem d_eqLI {xs ys : List Int} : R2D K (uEq K) (.lst (xs.map .int)) (.lst (ys.map .int)) (.bl (decide (xs = ys))) :=
  r2_is (d_eqD pures_ints pures_ints sh_li sh_li) (by rw [D.py, D.py, PyData.eqv, pys_ints, pys_ints, eqvAll_ints])
theorem d_neLI {xs ys : List Int} : R2D K (uNe K) (.lst (xs.map .int)) (.lst (ys.map .int)) (.bl (!decide (xs = ys))) :=
  r2_is (d_neD pures_ints pures_ints sh_li sh_li) (by rw [D.py, D.py, PyData.eqv, pys_ints, pys_ints, eqvAll_ints])
/-- two pairs of ints -/
theorem d_eqT2 {a b c d : Int} : R2D K (uEq K) (.tup [.int a, .int b]) (.tup [.int c, .int d]) (.bl (decide (a = c ∧ b = d))) :=
  r2_is (d_eqTI (xs := [a, b]) (ys := [c, d])) (by simp)
theorem d_neT2 {a b c d : Int} : R2D K (uNe K) (.tup [.int a, .int b]) (.tup [.int c, .int d]) (.bl (!decide (a = c ∧ b = d))) :=
  r2_is (d_neTI (xs := [a, b]) (ys := [c, d])) (by simp)
theorem d_inI {p : Int} {ns : List Int} : R2D K (uIn K) (.int p) (.lst (ns.map .int)) (.bl (decide (p ∈ ns))) := fun F H x y e hx ⟨a, vs, hy, ha, ra⟩ Q q => .inl (by
  rw [show x = .int p from hx]
  refine ⟨a, vs, hy, .inl (sq_of (e _ _ ha)), rfl, ?_, q _ F H (.refl e) ?_⟩
  · rw [RepL.ints ra]; exact flat_ints
  · rw [RepL.ints ra, inV_int]; rfl)
theorem d_niI {p : Int} {ns : List Int} : R2D K (uNi K) (.int p) (.lst (ns.map .int)) (.bl (!decide (p ∈ ns))) := fun F H x y e hx ⟨a, vs, hy, ha, ra⟩ Q q => .inl (by
  rw [show x = .int p from hx]
  refine ⟨a, vs, hy, .inl (sq_of (e _ _ ha)), rfl, ?_, q _ F H (.refl e) ?_⟩
  · rw [RepL.ints ra]; exact flat_ints
  · rw [RepL.ints ra, inV_int]; rfl)
theorem d_inIT {p : Int} {ns : List Int} : R2D K (uIn K) (.int p) (.tup (ns.map .int)) (.bl (decide (p ∈ ns))) := fun F H x y e hx ⟨a, vs, hy, ha, ra⟩ Q q => .inl (by
  rw [show x = .int p from hx]
  refine ⟨a, vs, hy, .inr (st_of (e _ _ ha)), rfl, ?_, q _ F H (.refl e) ?_⟩
  · rw [RepL.ints ra]; exact flat_ints
  · rw [RepL.ints ra, inV_int]; rfl)
theorem d_niIT {p : Int} {ns : List Int} : R2D K (uNi K) (.int p) (.tup (ns.map .int)) (.bl (!decide (p ∈ ns))) := fun F H x y e hx ⟨a, vs, hy, ha, ra⟩ Q q => .inl (by
  rw [show x = .int p from hx]
  refine ⟨a, vs, hy, .inr (st_of (e _ _ ha)), rfl, ?_, q _ F H (.refl e) ?_⟩
  · rw [RepL.ints ra]; exact flat_ints
  · rw [RepL.ints ra, inV_int]; rfl)
end Dm

set_option Elab.async false
set_option linter.all false
set_option maxRecDepth 100000
set_option maxHeartbeats 4000000
set_option autoImplicit false
/-! Ds: things of one's own, as trees; slots; what evaluates to what. -/
namespace Dm
open PySem L2 Evl
variable {K : PySem.W.Frag}
/-- a thing that may be changed: a tree whose leaves are data -/
inductive OD where
  | val (d : D) | lst (os : List OD) | dic (ks : List Key) (os : List OD) | dit (ks : List (List Key)) (os : List OD) | obj (C : Addr) (ns : List Str) (os : List OD)
/-- where it stands -/
inductive AD where
  | leaf (v : V) | node (a : Addr) (cs : List AD)
def AD.v : AD → V
  | .leaf v => v
  | .node a _ => .ref a
mutual
def AD.fp : AD → List Addr
  | .leaf _ => []
  | .node a cs => a :: AD.fps cs
def AD.fps : List AD → List Addr
  | [] => []
  | c :: cs => c.fp ++ AD.fps cs
end
mutual
def RepA (K : PySem.W.Frag) (F H : Hp) : OD → AD → Prop
  | .val d, t => ∃ v, t = .leaf v ∧ Rep K F d v
  | .lst os, t => ∃ a cs, t = .node a cs ∧ H a = some (.lst (cs.map AD.v)) ∧ RepAs K F H os cs
  | .dic ks os, t => ∃ a cs, t = .node a cs ∧ H a = some (.dK (ks.zip (cs.map AD.v))) ∧ ks.length = cs.length ∧ RepAs K F H os cs
  | .dit ks os, t => ∃ a cs, t = .node a cs ∧ H a = some (.dT (ks.zip (cs.map AD.v))) ∧ ks.length = cs.length ∧ RepAs K F H os cs
  | .obj C ns os, t => ∃ a dx cs, t = .node a cs ∧ H a = some (.ins C dx (ns.zip (cs.map AD.v))) ∧ ns.length = cs.length ∧ RepAs K F H os cs
def RepAs (K : PySem.W.Frag) (F H : Hp) : List OD → List AD → Prop
  | [], cs => cs = []
  | o :: os, cs => ∃ c cs', cs = c :: cs' ∧ RepA K F H o c ∧ RepAs K F H os cs'
end
mutual
def OD.fz : OD → D
  | .val d => d
  | .lst os => .lst (OD.fzs os)
  | .dic ks os => .dic ks (OD.fzs os)
  | .dit ks os => .dit ks (OD.fzs os)
  | .obj C ns os => .obj C ns (OD.fzs os)
def OD.fzs : List OD → List D
  | [] => []
  | o :: os => o.fz :: OD.fzs os
end
theorem fzs_map : ∀ os : List OD, OD.fzs os = os.map OD.fz
  | [] => rfl
  | o :: os => by rw [OD.fzs, List.map_cons, fzs_map os]
theorem fzs_val (ds : List D) : OD.fzs (ds.map .val) = ds := by
  rw [fzs_map, List.map_map]
  exact (List.map_congr_left fun d _ => rfl).trans (List.map_id ds)
mutual
theorem RepA.mono {F F' H H' : Hp} (e : Ex F F') : ∀ (o : OD) (t : AD), (∀ a ∈ t.fp, ∀ u, H a = some u → H' a = some u) → RepA K F H o t → RepA K F' H' o t
  | .val d, t, k, ⟨v, h1, h2⟩ => ⟨v, h1, h2.mono e⟩
  | .lst os, t, k, ⟨a, cs, h0, h1, h2⟩ => by
    subst h0; exact ⟨a, cs, rfl, k a List.mem_cons_self _ h1, RepAs.mono e os cs (fun b hb => k b (List.mem_cons_of_mem _ hb)) h2⟩
  | .dic ks os, t, k, ⟨a, cs, h0, h1, h3, h2⟩ => by
    subst h0; exact ⟨a, cs, rfl, k a List.mem_cons_self _ h1, h3, RepAs.mono e os cs (fun b hb => k b (List.mem_cons_of_mem _ hb)) h2⟩
  | .dit ks os, t, k, ⟨a, cs, h0, h1, h3, h2⟩ => by
    subst h0; exact ⟨a, cs, rfl, k a List.mem_cons_self _ h1, h3, RepAs.mono e os cs (fun b hb => k b (List.mem_cons_of_mem _ hb)) h2⟩
  | .obj C ns os, t, k, ⟨a, dx, cs, h0, h1, h3, h2⟩ => by
    subst h0; exact ⟨a, dx, cs, rfl, k a List.mem_cons_self _ h1, h3, RepAs.mono e os cs (fun b hb => k b (List.mem_cons_of_mem _ hb)) h2⟩
theorem RepAs.mono {F F' H H' : Hp} (e : Ex F F') : ∀ (os : List OD) (cs : List AD), (∀ a ∈ AD.fps cs, ∀ u, H a = some u → H' a = some u) → RepAs K F H os cs → RepAs K F' H' os cs
  | [], cs, k, h => h
  | o :: os, cs, k, ⟨c, cs', h0, h1, h2⟩ => by
    subst h0; exact ⟨c, cs', rfl, RepA.mono e o c (fun a ha => k a (List.mem_append_left _ ha)) h1, RepAs.mono e os cs' (fun a ha => k a (List.mem_append_right _ ha)) h2⟩
end
mutual
theorem RepA.live {F H : Hp} : ∀ (o : OD) (t : AD), RepA K F H o t → ∀ a ∈ t.fp, ∃ u, H a = some u
  | .val d, t, ⟨v, h0, h2⟩, a, ha => by subst h0; simp [AD.fp] at ha
  | .lst os, t, ⟨a, cs, h0, h1, h2⟩, b, hb => by subst h0; exact (List.mem_cons.mp hb).elim (fun z => ⟨_, z ▸ h1⟩) fun z => RepAs.live os cs h2 b z
  | .dic ks os, t, ⟨a, cs, h0, h1, h3, h2⟩, b, hb => by subst h0; exact (List.mem_cons.mp hb).elim (fun z => ⟨_, z ▸ h1⟩) fun z => RepAs.live os cs h2 b z
  | .dit ks os, t, ⟨a, cs, h0, h1, h3, h2⟩, b, hb => by subst h0; exact (List.mem_cons.mp hb).elim (fun z => ⟨_, z ▸ h1⟩) fun z => RepAs.live os cs h2 b z
  | .obj C ns os, t, ⟨a, dx, cs, h0, h1, h3, h2⟩, b, hb => by subst h0; exact (List.mem_cons.mp hb).elim (fun z => ⟨_, z ▸ h1⟩) fun z => RepAs.live os cs h2 b z
theorem RepAs.live {F H : Hp} : ∀ (os : List OD) (cs : List AD), RepAs K F H os cs → ∀ a ∈ AD.fps cs, ∃ u, H a = some u
  | [], cs, h, a, ha => by rw [show cs = [] from h] at ha; simp [AD.fps] at ha
  | o :: os, cs, ⟨c, cs', h0, h1, h2⟩, a, ha => by subst h0; exact (List.mem_append.mp ha).elim (RepA.live o c h1 a) (RepAs.live os cs' h2 a)
end
mutual
theorem RepA.fz {F F' H : Hp} (e : Ex F F') : ∀ (o : OD) (t : AD), (∀ a ∈ t.fp, ∀ u, H a = some u → F' a = some u) → RepA K F H o t → Rep K F' o.fz t.v
  | .val d, t, k, ⟨v, h0, h2⟩ => by subst h0; exact h2.mono e
  | .lst os, t, k, ⟨a, cs, h0, h1, h2⟩ => by
    subst h0; exact ⟨a, _, rfl, k a List.mem_cons_self _ h1, RepAs.fz e os cs (fun b hb => k b (List.mem_cons_of_mem _ hb)) h2⟩
  | .dic ks os, t, k, ⟨a, cs, h0, h1, h3, h2⟩ => by
    subst h0; exact ⟨a, _, rfl, k a List.mem_cons_self _ h1, by rw [List.length_map]; exact h3, RepAs.fz e os cs (fun b hb => k b (List.mem_cons_of_mem _ hb)) h2⟩
  | .dit ks os, t, k, ⟨a, cs, h0, h1, h3, h2⟩ => by
    subst h0; exact ⟨a, _, rfl, k a List.mem_cons_self _ h1, by rw [List.length_map]; exact h3, RepAs.fz e os cs (fun b hb => k b (List.mem_cons_of_mem _ hb)) h2⟩
  | .obj C ns os, t, k, ⟨a, dx, cs, h0, h1, h3, h2⟩ => by
    subst h0; exact ⟨a, dx, _, rfl, k a List.mem_cons_self _ h1, by rw [List.length_map]; exact h3, RepAs.fz e os cs (fun b hb => k b (List.mem_cons_of_mem _ hb)) h2⟩
theorem RepAs.fz {F F' H : Hp} (e : Ex F F') : ∀ (os : List OD) (cs : List AD), (∀ a ∈ AD.fps cs, ∀ u, H a = some u → F' a = some u) → RepAs K F H os cs → RepL K F' (OD.fzs os) (cs.map AD.v)
  | [], cs, k, h => by rw [show cs = [] from h]; rfl
  | o :: os, cs, k, ⟨c, cs', h0, h1, h2⟩ => by
    subst h0; exact ⟨_, _, rfl, RepA.fz e o c (fun a ha => k a (List.mem_append_left _ ha)) h1, RepAs.fz e os cs' (fun a ha => k a (List.mem_append_right _ ha)) h2⟩
end
theorem RepAs.len {F H : Hp} : ∀ {os : List OD} {cs : List AD}, RepAs K F H os cs → cs.length = os.length
  | [], cs, h => by rw [show cs = [] from h]; rfl
  | o :: os, _, ⟨c, cs', rfl, h1, h2⟩ => by rw [List.length_cons, List.length_cons, RepAs.len h2]
theorem RepAs.get {F H : Hp} : ∀ {os : List OD} {cs : List AD} {i : Nat} {o : OD}, RepAs K F H os cs → os[i]? = some o → ∃ c, cs[i]? = some c ∧ RepA K F H o c
  | [], _, _, _, _, e => by simp at e
  | o :: os, _, 0, o', ⟨c, cs', rfl, h1, _⟩, e => by
    have e' : o = o' := by simpa using e
    subst e'; exact ⟨c, rfl, h1⟩
  | o :: os, _, i + 1, o', ⟨c, cs', rfl, _, h2⟩, e => by simpa using RepAs.get (i := i) h2 (by simpa using e)
theorem RepAs.append {F H : Hp} : ∀ {os us : List OD} {cs es : List AD}, RepAs K F H os cs → RepAs K F H us es → RepAs K F H (os ++ us) (cs ++ es)
  | [], _, _, _, h, k => by rw [show _ = [] from h]; exact k
  | o :: os, us, _, es, ⟨c, cs', rfl, h1, h2⟩, k => ⟨c, cs' ++ es, rfl, h1, RepAs.append h2 k⟩
theorem fps_append : ∀ (cs es : List AD), AD.fps (cs ++ es) = AD.fps cs ++ AD.fps es
  | [], es => rfl
  | c :: cs, es => by rw [List.cons_append, AD.fps, AD.fps, fps_append cs es, List.append_assoc]
theorem fps_mem {a : Addr} {c : AD} (hc : a ∈ c.fp) : ∀ {cs : List AD} {i : Nat}, cs[i]? = some c → a ∈ AD.fps cs
  | [], i, e => by simp at e
  | c' :: cs, 0, e => by
    have e : c' = c := by simpa using e
    subst e; exact List.mem_append_left _ hc
  | c' :: cs, i + 1, e => List.mem_append_right _ (fps_mem hc (i := i) (by simpa using e))
/-- leaves alone -/
def leaves (vs : List V) : List AD := vs.map .leaf
theorem fps_leaves : ∀ vs : List V, AD.fps (leaves vs) = []
  | [] => rfl
  | v :: vs => by show (AD.leaf v).fp ++ AD.fps (leaves vs) = []; rw [fps_leaves vs]; rfl
theorem map_leaves (vs : List V) : (leaves vs).map AD.v = vs := by
  rw [leaves, List.map_map]; exact (List.map_congr_left fun d _ => rfl).trans (List.map_id vs)
theorem repAs_leaves {F H : Hp} : ∀ {ds : List D} {vs : List V}, RepL K F ds vs → RepAs K F H (ds.map .val) (leaves vs)
  | [], _, h => by rw [show _ = [] from h]; rfl
  | d :: ds, _, ⟨w, ws, rfl, h1, h2⟩ => ⟨.leaf w, leaves ws, rfl, ⟨w, rfl, h1⟩, repAs_leaves h2⟩
theorem leaves_of {F H : Hp} : ∀ {ds : List D} {cs : List AD}, RepAs K F H (ds.map .val) cs → ∃ vs, cs = leaves vs ∧ RepL K F ds vs
  | [], cs, h => ⟨[], by rw [show cs = [] from h]; rfl, rfl⟩
  | d :: ds, _, ⟨c, cs', rfl, ⟨v, h1, h3⟩, h2⟩ => by
    obtain ⟨vs, e, r⟩ := leaves_of h2
    exact ⟨v :: vs, by rw [h1, e]; rfl, v, vs, rfl, h3, r⟩

/-! ### slots -/
inductive Slot where
  | no | val (d : D) | own (o : OD)
structure RepS (K : PySem.W.Frag) (B F H : Hp) (σ : L2.St) (env : List Slot) (T : Nat → AD) : Prop where
  bh : Ex B H
  fh : Ex F H
  val : ∀ (i : Nat) (d : D), env[i]? = some (Slot.val d) → ∃ v, σ[i]? = some (some v) ∧ Rep K F d v
  own : ∀ (i : Nat) (o : OD), env[i]? = some (Slot.own o) → σ[i]? = some (some (T i).v) ∧ RepA K F H o (T i) ∧ (T i).fp.Nodup ∧ ∀ a ∈ (T i).fp, B a = none ∧ F a = none
  sep : ∀ (i j : Nat) (o u : OD) (a : Addr), env[i]? = some (Slot.own o) → env[j]? = some (Slot.own u) → a ∈ (T i).fp → a ∈ (T j).fp → i = j
  len : env.length = σ.length
def upT (T : Nat → AD) (i : Nat) (t : AD) : Nat → AD := fun j => if j = i then t else T j
theorem upT_same {T : Nat → AD} {i : Nat} {t : AD} : upT T i t i = t := if_pos rfl
theorem upT_ne {T : Nat → AD} {i j : Nat} {t : AD} (h : j ≠ i) : upT T i t j = T j := if_neg h
/-- but for M nothing moved; slot 0's own thing stands where it stood -/
structure Keep (M : List Nat) (T T' : Nat → AD) : Prop where
  k : ∀ j, j ∉ M → T' j = T j
  z : (T' 0).v = (T 0).v
theorem Keep.refl {M : List Nat} {T : Nat → AD} : Keep M T T := ⟨fun _ _ => rfl, rfl⟩
theorem Keep.trans {M : List Nat} {T T1 T2 : Nat → AD} (a : Keep M T T1) (b : Keep M T1 T2) : Keep M T T2 := ⟨fun j h => (b.k j h).trans (a.k j h), b.z.trans a.z⟩
theorem Keep.sub {M M' : List Nat} {T T1 : Nat → AD} (a : Keep M T T1) (h : ∀ j ∈ M, j ∈ M') : Keep M' T T1 := ⟨fun j hj => a.k j fun z => hj (h j z), a.z⟩
theorem Keep.up {M : List Nat} {T : Nat → AD} {i : Nat} {t : AD} (h : i ∈ M) (hi : i = 0 → t.v = (T 0).v) : Keep M T (upT T i t) := ⟨fun j hj => upT_ne fun z => hj (z ▸ h), by
  by_cases h0 : i = 0
  · subst h0; rw [upT_same]; exact hi rfl
  · rw [upT_ne (Ne.symm h0)]⟩
theorem Keep.all {T T' : Nat → AD} (a : Keep [] T T') : T' = T := funext fun j => a.k j (by simp)
section
variable {B F H F' H' : Hp} {σ : L2.St} {env : List Slot} {T : Nat → AD}
theorem RepS.up (r : RepS K B F H σ env T) (u : Up F H F' H') : RepS K B F' H' σ env T where
  bh := r.bh.trans u.h
  fh := u.fh
  val := fun i d e => let ⟨v, h1, h2⟩ := r.val i d e; ⟨v, h1, h2.mono u.f⟩
  own := fun i o e => by
    obtain ⟨h1, h2, h3, h4⟩ := r.own i o e
    refine ⟨h1, RepA.mono u.f o _ (fun a _ x hx => u.h a x hx) h2, h3, fun a ha => ⟨(h4 a ha).1, u.no a (h4 a ha).2 ?_⟩⟩
    obtain ⟨x, hx⟩ := RepA.live o _ h2 a ha
    rw [hx]; simp
  sep := r.sep
  len := r.len
theorem lt_of_set {α : Type} {l : List α} {i : Nat} {s t : α} (h : (l.set i s)[i]? = some t) : i < l.length := by
  rcases Nat.lt_or_ge i l.length with z | z
  · exact z
  · rw [List.getElem?_eq_none (by simpa using z)] at h; cases h
theorem set_get {α : Type} {l : List α} {i j : Nat} {s t : α} (h : (l.set i s)[j]? = some t) : (i = j ∧ t = s ∧ i < l.length) ∨ (i ≠ j ∧ l[j]? = some t) := by
  by_cases hj : i = j
  · subst hj
    have hl := lt_of_set h
    rw [List.getElem?_set_self hl] at h
    cases h; exact .inl ⟨rfl, rfl, hl⟩
  · rw [List.getElem?_set_ne hj] at h; exact .inr ⟨hj, h⟩
/-- a slot takes a value -/
theorem RepS.set (r : RepS K B F H σ env T) {i : Nat} {d : D} {v : V} (h : Rep K F d v) : RepS K B F H (σ.set i (some v)) (env.set i (.val d)) T where
  bh := r.bh
  fh := r.fh
  val := fun j d' e => by
    rcases set_get e with ⟨rfl, z, hl⟩ | ⟨hj, e'⟩
    · cases z; exact ⟨v, List.getElem?_set_self (by rw [← r.len]; exact hl), h⟩
    · rw [List.getElem?_set_ne hj]; exact r.val j d' e'
  own := fun j o e => by
    rcases set_get e with ⟨rfl, z, hl⟩ | ⟨hj, e'⟩
    · cases z
    · rw [List.getElem?_set_ne hj]; exact r.own j o e'
  sep := fun j k o u a e1 e2 => by
    rcases set_get e1 with ⟨rfl, z, hl⟩ | ⟨hj, e1'⟩
    · cases z
    · rcases set_get e2 with ⟨rfl, z, hl⟩ | ⟨hk, e2'⟩
      · cases z
      · exact r.sep j k o u a e1' e2'
  len := by simpa using r.len
/-- forgetting -/
def Wk (e e' : List Slot) : Prop := e'.length = e.length ∧ ∀ (i : Nat) (s : Slot), e'[i]? = some s → s = .no ∨ e[i]? = some s
theorem Wk.refl {e : List Slot} : Wk e e := ⟨rfl, fun _ _ h => .inr h⟩
theorem Wk.nil : Wk [] [] := .refl
theorem Wk.same {s : Slot} {e e' : List Slot} (h : Wk e e') : Wk (s :: e) (s :: e') := ⟨by rw [List.length_cons, List.length_cons, h.1], fun i x hx => by
  cases i with
  | zero => exact .inr hx
  | succ i => simpa using h.2 i x (by simpa using hx)⟩
theorem Wk.drop {s : Slot} {e e' : List Slot} (h : Wk e e') : Wk (s :: e) (.no :: e') := ⟨by rw [List.length_cons, List.length_cons, h.1], fun i x hx => by
  cases i with
  | zero => left; simpa using hx.symm
  | succ i => simpa using h.2 i x (by simpa using hx)⟩
theorem Wk.trans {a b c : List Slot} (h : Wk a b) (k : Wk b c) : Wk a c := ⟨k.1.trans h.1, fun i s hs => (k.2 i s hs).elim .inl fun z => h.2 i s z⟩
theorem RepS.weak (r : RepS K B F H σ env T) {env' : List Slot} (w : Wk env env') : RepS K B F H σ env' T where
  bh := r.bh
  fh := r.fh
  val := fun i d e => by
    rcases w.2 i _ e with z | z
    · cases z
    · exact r.val i d z
  own := fun i o e => by
    rcases w.2 i _ e with z | z
    · cases z
    · exact r.own i o z
  sep := fun i j o u a e1 e2 => by
    rcases w.2 i _ e1 with z | z
    · cases z
    · rcases w.2 j _ e2 with y | y
      · cases y
      · exact r.sep i j o u a z y
  len := w.1.trans r.len
/-- a slot takes a thing of one's own -/
theorem RepS.take (r : RepS K B F H σ env T) {i : Nat} {o : OD} {t : AD} (h : RepA K F H o t) (nd : t.fp.Nodup) (hn : ∀ a ∈ t.fp, B a = none ∧ F a = none) (dj : ∀ (j : Nat) (u : OD) (a : Addr), env[j]? = some (Slot.own u) → j ≠ i → a ∈ t.fp → a ∉ (T j).fp) :
    RepS K B F H (σ.set i (some t.v)) (env.set i (.own o)) (upT T i t) where
  bh := r.bh
  fh := r.fh
  val := fun j d' e => by
    rcases set_get e with ⟨rfl, z, hl⟩ | ⟨hj, e'⟩
    · cases z
    · rw [List.getElem?_set_ne hj]; exact r.val j d' e'
  own := fun j u e => by
    rcases set_get e with ⟨rfl, z, hl⟩ | ⟨hj, e'⟩
    · cases z
      rw [upT_same]
      exact ⟨List.getElem?_set_self (by rw [← r.len]; exact hl), h, nd, hn⟩
    · rw [upT_ne (Ne.symm hj), List.getElem?_set_ne hj]; exact r.own j u e'
  sep := fun j k u w a e1 e2 => by
    rcases set_get e1 with ⟨rfl, z, hl⟩ | ⟨hj, e1'⟩
    · rcases set_get e2 with ⟨rfl, _, _⟩ | ⟨hk, e2'⟩
      · intro _ _; rfl
      · rw [upT_same, upT_ne (Ne.symm hk)]
        exact fun h1 h2 => absurd h2 (dj k w a e2' (Ne.symm hk) h1)
    · rcases set_get e2 with ⟨rfl, _, _⟩ | ⟨hk, e2'⟩
      · rw [upT_same, upT_ne (Ne.symm hj)]
        exact fun h1 h2 => absurd h1 (dj j u a e1' (Ne.symm hj) h2)
      · rw [upT_ne (Ne.symm hj), upT_ne (Ne.symm hk)]
        exact r.sep j k u w a e1' e2'
  len := by simpa using r.len
/-- a thing of one's own is frozen -/
theorem RepS.fz (r : RepS K B F H σ env T) {o : OD} {t : AD} (h : RepA K F H o t) (hn : ∀ a ∈ t.fp, B a = none ∧ F a = none) (dj : ∀ (j : Nat) (u : OD) (a : Addr), env[j]? = some (Slot.own u) → a ∈ t.fp → a ∉ (T j).fp) :
    ∃ F', RepS K B F' H σ env T ∧ Gr B F F' ∧ Rep K F' o.fz t.v := by
  classical
  refine ⟨fun a => if a ∈ t.fp then H a else F a, ?_, ?_, ?_⟩
  · have e1 : Ex F (fun a => if a ∈ t.fp then H a else F a) := fun a u e => by
      show (if a ∈ t.fp then H a else F a) = _
      by_cases ha : a ∈ t.fp
      · rw [(hn a ha).2] at e; cases e
      · rw [if_neg ha]; exact e
    refine ⟨r.bh, fun a u e => ?_, fun i d e => let ⟨v, h1, h2⟩ := r.val i d e; ⟨v, h1, h2.mono e1⟩, fun i u e => ?_, r.sep, r.len⟩
    · have e : (if a ∈ t.fp then H a else F a) = some u := e
      by_cases ha : a ∈ t.fp
      · rw [if_pos ha] at e; exact e
      · rw [if_neg ha] at e; exact r.fh a u e
    · obtain ⟨h1, h2, h3, h4⟩ := r.own i u e
      refine ⟨h1, RepA.mono e1 u _ (fun _ _ _ z => z) h2, h3, fun a ha => ⟨(h4 a ha).1, ?_⟩⟩
      show (if a ∈ t.fp then H a else F a) = _
      rw [if_neg (fun z => dj i u a e z ha)]; exact (h4 a ha).2
  · refine ⟨fun a u e => ?_, fun p h1 h2 => ?_⟩
    · show (if a ∈ t.fp then H a else F a) = _
      by_cases ha : a ∈ t.fp
      · rw [(hn a ha).2] at e; cases e
      · rw [if_neg ha]; exact e
    · show (if p ∈ t.fp then H p else F p) = _
      by_cases ha : p ∈ t.fp
      · exact absurd (hn p ha).1 h2
      · rw [if_neg ha]; exact h1
  · refine RepA.fz (fun a u e => ?_) o t (fun a ha u hu => ?_) h
    · show (if a ∈ t.fp then H a else F a) = _
      by_cases ha : a ∈ t.fp
      · rw [(hn a ha).2] at e; cases e
      · rw [if_neg ha]; exact e
    · show (if a ∈ t.fp then H a else F a) = _
      rw [if_pos ha]; exact hu
/-- one's own, given up -/
theorem RepS.give (r : RepS K B F H σ env T) {i : Nat} {o : OD} (e : env[i]? = some (.own o)) : ∃ F', RepS K B F' H σ (env.set i .no) T ∧ Gr B F F' ∧ Rep K F' o.fz (T i).v := by
  obtain ⟨h1, h2, h3, h4⟩ := r.own i o e
  have w : Wk env (env.set i .no) := ⟨by simp, fun j s hs => by
    rcases set_get hs with ⟨rfl, z, _⟩ | ⟨_, z⟩
    · exact .inl z
    · exact .inr z⟩
  refine (r.weak w).fz h2 h4 fun j u a ej ha hb => ?_
  rcases set_get ej with ⟨rfl, z, _⟩ | ⟨hj, z⟩
  · cases z
  · exact hj (r.sep i j o u a e z ha hb)
/-- all that stands but one's own -/
theorem RepS.base (r : RepS K B F H σ env T) : ∃ B', Ex B B' ∧ Ex B' H ∧ RepS K B' F H σ env T ∧ (∀ F', Gr B' F F' → Gr B F F') ∧ ∀ a u, H a = some u → (∀ (j : Nat) (o : OD), env[j]? = some (Slot.own o) → a ∉ (T j).fp) → B' a = some u := by
  classical
  refine ⟨fun a => if (∃ (j : Nat) (u : OD), env[j]? = some (Slot.own u) ∧ a ∈ (T j).fp) then none else H a, fun a u e => ?_, fun a u e => ?_, ⟨fun a u e => ?_, r.fh, r.val, fun i o e => ?_, r.sep, r.len⟩, fun F' g => ⟨g.f, fun p h1 h2 => g.no p h1 ?_⟩, fun a u hu hn => ?_⟩
  · show (if _ then _ else _) = _
    rw [if_neg (fun ⟨j, w, ej, ha⟩ => by rw [((r.own j w ej).2.2.2 a ha).1] at e; cases e)]
    exact r.bh a u e
  · have e : (if (∃ (j : Nat) (u : OD), env[j]? = some (Slot.own u) ∧ a ∈ (T j).fp) then none else H a) = some u := e
    split at e
    · cases e
    · exact e
  · have e : (if (∃ (j : Nat) (u : OD), env[j]? = some (Slot.own u) ∧ a ∈ (T j).fp) then none else H a) = some u := e
    split at e
    · cases e
    · exact e
  · obtain ⟨h1, h2, h3, h4⟩ := r.own i o e
    refine ⟨h1, h2, h3, fun a ha => ⟨if_pos ⟨i, o, e, ha⟩, (h4 a ha).2⟩⟩
  · show (if _ then _ else _) ≠ _
    cases hb : B p with
    | none => exact absurd hb h2
    | some u =>
      rw [if_neg (fun ⟨j, w, ej, ha⟩ => by rw [((r.own j w ej).2.2.2 p ha).1] at hb; cases hb), r.bh p u hb]
      simp
  · show (if _ then _ else _) = _
    rw [if_neg (fun ⟨j, w, ej, ha⟩ => hn j w ej ha)]
    exact hu
theorem RepS.chg (r : RepS K B F H σ env T) {p : Addr} {u : HO} (hB : B p = none) (hF : F p = none) (hn : ∀ (j : Nat) (o : OD), env[j]? = some (Slot.own o) → p ∉ (T j).fp) : RepS K B F (upd H p u) σ env T where
  bh := r.bh.mut hB
  fh := r.fh.mut hF
  val := r.val
  own := fun i o e => by
    obtain ⟨h1, h2, h3, h4⟩ := r.own i o e
    exact ⟨h1, RepA.mono (.refl _) o _ (fun a ha x hx => by rw [upd_ne (fun z : a = p => hn i o e (by rw [← z]; exact ha))]; exact hx) h2, h3, h4⟩
  sep := r.sep
  len := r.len
theorem RepS.subB {B' : Hp} (r : RepS K B' F H σ env T) (e : Ex B B') : RepS K B F H σ env T where
  bh := e.trans r.bh
  fh := r.fh
  val := r.val
  own := fun i o ei => by
    obtain ⟨h1, h2, h3, h4⟩ := r.own i o ei
    refine ⟨h1, h2, h3, fun a ha => ⟨?_, (h4 a ha).2⟩⟩
    cases hb : B a with
    | none => rfl
    | some u =>
      have := (h4 a ha).1
      rw [e a u hb] at this
      cases this
  sep := r.sep
  len := r.len
end
theorem Gr.sub {B B' F F' : Hp} (e : Ex B B') (g : Gr B' F F') : Gr B F F' := ⟨g.f, fun p h k => g.no p h fun z => by
  cases hb : B p with
  | none => exact k hb
  | some u => rw [e p u hb] at z; cases z⟩
end Dm

set_option Elab.async false
set_option linter.all false
set_option maxRecDepth 100000
set_option maxHeartbeats 4000000
set_option autoImplicit false
/-! De: what evaluates to what. -/
namespace Dm
open PySem L2 Evl StX PyProof.Rows
variable {K : PySem.W.Frag} {M : List Nat}
/-- te gives a value that stands for d; env: the slots ahead, env': behind; M: whose own things may be changed -/
def Ev (K : PySem.W.Frag) (M : List Nat) (te : TE) (env : List Slot) (d : D) (env' : List Slot) : Prop :=
  ∀ B F H σ T, RepS K B F H σ env T → ∀ Q : VK, (∀ v F' H' T', RepS K B F' H' σ env' T' → Gr B F F' → Keep M T T' → Rep K F' d v → Q v H') → te σ H Q
def EvT (K : PySem.W.Frag) (M : List Nat) (tt : TT) (env : List Slot) (b : Bool) (env' : List Slot) : Prop :=
  ∀ B F H σ T, RepS K B F H σ env T → ∀ Q : Bool → Hp → Prop, (∀ F' H' T', RepS K B F' H' σ env' T' → Gr B F F' → Keep M T T' → Q b H') → tt σ H Q
def EvA (K : PySem.W.Frag) (M : List Nat) (ta : TA) (env : List Slot) (ds : List D) (env' : List Slot) : Prop :=
  ∀ B F H σ T, RepS K B F H σ env T → ∀ Q : List V → Hp → Prop, (∀ vs F' H' T', RepS K B F' H' σ env' T' → Gr B F F' → Keep M T T' → RepL K F' ds vs → Q vs H') → ta σ H Q
def EvO (K : PySem.W.Frag) (M : List Nat) (to : TO) (env : List Slot) (o : Option Int) (env' : List Slot) : Prop :=
  ∀ B F H σ T, RepS K B F H σ env T → ∀ Q : Option Int → Hp → Prop, (∀ F' H' T', RepS K B F' H' σ env' T' → Gr B F F' → Keep M T T' → Q o H') → to σ H Q
/-- a new thing of one's own -/
def EvW (K : PySem.W.Frag) (M : List Nat) (te : TE) (env : List Slot) (o : OD) (env' : List Slot) : Prop :=
  ∀ B F H σ T, RepS K B F H σ env T → ∀ Q : VK, (∀ t F' H' T', RepS K B F' H' σ env' T' → Gr B F F' → Keep M T T' → RepA K F' H' o t → t.fp.Nodup → (∀ a ∈ t.fp, B a = none ∧ F' a = none) →
    (∀ (j : Nat) (u : OD) (a : Addr), env'[j]? = some (Slot.own u) → a ∈ t.fp → a ∉ (T' j).fp) → Q t.v H') → te σ H Q
section
variable {env env1 env2 env3 : List Slot} {ta tb tc te : TE} {t u : TT} {a b c d : D}
theorem ev_var {i : Nat} (h : env[i]? = some (Slot.val d)) : Ev K M (tVar i) env d env := fun B F H σ T r Q q =>
  let ⟨v, h1, h2⟩ := r.val i d h; ⟨v, h1, q v F H T r .refl .refl h2⟩
theorem ev_int {i : Int} : Ev K M (tC (.int i)) env (.int i) env := fun B F H σ T r Q q => q _ F H T r .refl .refl rfl
theorem ev_bl {i : Bool} : Ev K M (tC (.bl i)) env (.bl i) env := fun B F H σ T r Q q => q _ F H T r .refl .refl rfl
theorem ev_non : Ev K M (tC .non) env .non env := fun B F H σ T r Q q => q _ F H T r .refl .refl rfl
theorem ev_str {i : Str} : Ev K M (tC (.str i)) env (.str i) env := fun B F H σ T r Q q => q _ F H T r .refl .refl rfl
theorem ev_adr {i : Addr} : Ev K M (tC (.ref i)) env (.adr i) env := fun B F H σ T r Q q => q _ F H T r .refl .refl rfl
theorem ev_ty {i : String} : Ev K M (tC (.ty i)) env (.ty i) env := fun B F H σ T r Q q => q _ F H T r .refl .refl rfl
theorem ev_ktup {i : Addr} {vs : List V} {ds : List D} (h : ∀ H, SqT K H i vs) (hr : ∀ H, RepL K H ds vs) : Ev K M (tC (.ref i)) env (.ktup ds) env := fun B F H σ T r Q q => q _ F H T r .refl .refl ⟨i, vs, rfl, h F, hr F⟩
theorem ev_op {r : R2} (ha : Ev K M ta env a env1) (hb : Ev K M tb env1 b env2) (hr : R2D K r a b c) : Ev K M (tOp r ta tb) env c env2 := fun B F H σ T s Q q =>
  ha B F H σ T s _ fun x F1 H1 T1 s1 g1 k1 r1 => hb B F1 H1 σ T1 s1 _ fun y F2 H2 T2 s2 g2 k2 r2 => hr F2 H2 x y s2.fh (r1.mono g2.f) r2 Q fun z F3 H3 u3 r3 =>
    q z F3 H3 T2 (s2.up u3) ((g1.trans g2).trans (.of_up s2.bh u3)) (k1.trans k2) r3
theorem ev_un {r : V → Hp → VK → Prop} (ha : Ev K M ta env a env1) (hr : R1D K r a c) : Ev K M (tUn r ta) env c env1 := fun B F H σ T s Q q =>
  ha B F H σ T s _ fun x F1 H1 T1 s1 g1 k1 r1 => hr F1 H1 x s1.fh r1 Q fun z F3 H3 u3 r3 => q z F3 H3 T1 (s1.up u3) (g1.trans (.of_up s1.bh u3)) k1 r3
theorem ea_nil : EvA K M tNil env [] env := fun B F H σ T s Q q => q [] F H T s .refl .refl rfl
theorem ea_cons {tr : TA} {ds : List D} (ha : Ev K M ta env a env1) (hr : EvA K M tr env1 ds env2) : EvA K M (tCons ta tr) env (a :: ds) env2 := fun B F H σ T s Q q =>
  ha B F H σ T s _ fun x F1 H1 T1 s1 g1 k1 r1 => hr B F1 H1 σ T1 s1 _ fun vs F2 H2 T2 s2 g2 k2 r2 => q (x :: vs) F2 H2 T2 s2 (g1.trans g2) (k1.trans k2) ⟨x, vs, rfl, r1.mono g2.f, r2⟩
theorem ea_starT {t : TA} {ds es : List D} (h : Ev K M te env (.tup ds) env1) (hr : EvA K M t env1 es env2) : EvA K M (tStar K te t) env (ds ++ es) env2 := fun B F H σ T s Q q =>
  h B F H σ T s _ fun v F1 H1 T1 s1 g1 k1 ⟨a, us, h1, ha, ra⟩ => ⟨a, us, h1, .inl (st_of (s1.fh _ _ ha)), hr B F1 H1 σ T1 s1 _ fun ws F2 H2 T2 s2 g2 k2 r2 => q _ F2 H2 T2 s2 (g1.trans g2) (k1.trans k2) ((ra.mono g2.f).append r2)⟩
theorem ea_starL {t : TA} {ds es : List D} (h : Ev K M te env (.lst ds) env1) (hr : EvA K M t env1 es env2) : EvA K M (tStar K te t) env (ds ++ es) env2 := fun B F H σ T s Q q =>
  h B F H σ T s _ fun v F1 H1 T1 s1 g1 k1 ⟨a, us, h1, ha, ra⟩ => ⟨a, us, h1, .inr (sq_of (s1.fh _ _ ha)), hr B F1 H1 σ T1 s1 _ fun ws F2 H2 T2 s2 g2 k2 r2 => q _ F2 H2 T2 s2 (g1.trans g2) (k1.trans k2) ((ra.mono g2.f).append r2)⟩
theorem ev_cb {r : List V → Hp → VK → Prop} {ta : TA} {ds : List D} (ha : EvA K M ta env ds env1) (hr : RAD K r ds c) : Ev K M (tCB r ta) env c env1 := fun B F H σ T s Q q =>
  ha B F H σ T s _ fun vs F1 H1 T1 s1 g1 k1 r1 => hr F1 H1 vs s1.fh r1 Q fun z F3 H3 u3 r3 => q z F3 H3 T1 (s1.up u3) (g1.trans (.of_up s1.bh u3)) k1 r3
theorem ev_tup {ta : TA} {ds : List D} (ha : EvA K M ta env ds env1) (hl : ds.length ≤ 100000) : Ev K M (tTup ta) env (.tup ds) env1 := fun B F H σ T s Q q =>
  ha B F H σ T s _ fun vs F1 H1 T1 s1 g1 k1 r1 => ⟨sz_of (by rw [r1.len]; exact hl), fun p hp => by
    have u := Up.new (o := .tup vs) s1.fh hp
    exact q _ _ _ T1 (s1.up u) (g1.trans (.of_up s1.bh u)) k1 ⟨p, vs, rfl, upd_same, r1.mono u.f⟩⟩
theorem nin_new {B F H : Hp} {σ : L2.St} {env : List Slot} {T : Nat → AD} {p : Addr} (r : RepS K B F H σ env T) (hp : H p = none) : ∀ (j : Nat) (u : OD) (a : Addr), env[j]? = some (Slot.own u) → a ∈ [p] → a ∉ (T j).fp := fun j u a e ha hb => by
  rw [List.mem_singleton.mp ha] at hb
  obtain ⟨x, hx⟩ := RepA.live u _ (r.own j u e).2.1 p hb
  rw [hp] at hx; cases hx
theorem fp_leaves (p : Addr) (vs : List V) : (AD.node p (leaves vs)).fp = [p] := by rw [AD.fp, fps_leaves]
theorem ew_new {B F H : Hp} {σ : L2.St} {env1 : List Slot} {T1 : Nat → AD} {p : Addr} {vs : List V} {ds : List D} (s1 : RepS K B F H σ env1 T1) (hp : H p = none) (r1 : RepL K F ds vs) :
    RepS K B F (upd H p (.lst vs)) σ env1 T1 ∧ RepA K F (upd H p (.lst vs)) (.lst (ds.map .val)) (.node p (leaves vs)) ∧ (AD.node p (leaves vs)).fp.Nodup ∧ (∀ a ∈ (AD.node p (leaves vs)).fp, B a = none ∧ F a = none) ∧
    (∀ (j : Nat) (u : OD) (a : Addr), env1[j]? = some (Slot.own u) → a ∈ (AD.node p (leaves vs)).fp → a ∉ (T1 j).fp) := by
  rw [fp_leaves]
  refine ⟨s1.up (Up.heap s1.fh hp), ⟨p, leaves vs, rfl, by rw [map_leaves]; exact upd_same, repAs_leaves r1⟩, by simp, fun a ha => ?_, nin_new s1 hp⟩
  rw [List.mem_singleton.mp ha]
  exact ⟨fresh_back s1.bh hp, fresh_back s1.fh hp⟩
theorem ew_lst {ta : TA} {ds : List D} (ha : EvA K M ta env ds env1) (hl : ds.length ≤ 100000) : EvW K M (tLst ta) env (.lst (ds.map .val)) env1 := fun B F H σ T s Q q =>
  ha B F H σ T s _ fun vs F1 H1 T1 s1 g1 k1 r1 => ⟨sz_of (by rw [r1.len]; exact hl), fun p hp => by
    obtain ⟨a1, a2, a3, a4, a5⟩ := ew_new s1 hp r1
    exact q (.node p (leaves vs)) F1 _ T1 a1 g1 k1 a2 a3 a4 a5⟩
/-- what is new is frozen -/
theorem ev_fz {o : OD} (h : EvW K M te env o env1) : Ev K M te env o.fz env1 := fun B F H σ T s Q q =>
  h B F H σ T s Q fun t F1 H1 T1 s1 g1 k1 ra nd hn dj => by
    obtain ⟨F2, s2, g2, r2⟩ := s1.fz ra hn dj
    exact q _ F2 H1 T1 s2 (g1.trans g2) k1 r2
theorem ev_is (h : Ev K M te env d env1) (e : d = c) : Ev K M te env c env1 := e ▸ h
theorem et_is {x y : Bool} (h : EvT K M t env x env1) (e : x = y) : EvT K M t env y env1 := e ▸ h
theorem ew_is {o p : OD} (h : EvW K M te env o env1) (e : o = p) : EvW K M te env p env1 := e ▸ h
theorem ev_fzL {ds : List D} (h : EvW K M te env (.lst (ds.map .val)) env1) : Ev K M te env (.lst ds) env1 := ev_is (ev_fz h) (by rw [OD.fz, fzs_val])
theorem ev_lst {ta : TA} {ds : List D} (ha : EvA K M ta env ds env1) (hl : ds.length ≤ 100000) : Ev K M (tLst ta) env (.lst ds) env1 := ev_fzL (ew_lst ha hl)
theorem et_test {x : Bool} (h : Ev K M te env (.bl x) env1) : EvT K M (tTest te) env x env1 := fun B F H σ T s Q q => h B F H σ T s _ fun v F1 H1 T1 s1 g1 k1 r1 => ⟨x, r1, q F1 H1 T1 s1 g1 k1⟩
theorem et_B {x : Bool} (h : Ev K M te env (.bl x) env1) : EvT K M (tB te) env x env1 := fun B F H σ T s Q q => h B F H σ T s _ fun v F1 H1 T1 s1 g1 k1 r1 => ⟨x, r1, q F1 H1 T1 s1 g1 k1⟩
theorem et_yes : EvT K M tYes env true env := fun B F H σ T s Q q => q F H T s .refl .refl
theorem et_not {x : Bool} (h : EvT K M t env x env1) : EvT K M (tNot t) env (!x) env1 := fun B F H σ T s Q q => h B F H σ T s _ fun F1 H1 T1 s1 g1 k1 => q F1 H1 T1 s1 g1 k1
theorem et_and {x y : Bool} (h1 : EvT K M t env x env1) (h2 : x = true → EvT K M u env1 y env1) : EvT K M (tAnd t u) env (x && y) env1 := fun B F H σ T s Q q => h1 B F H σ T s _ fun F1 H1 T1 s1 g1 k1 => by
  cases x with
  | true => exact h2 rfl B F1 H1 σ T1 s1 _ fun F2 H2 T2 s2 g2 k2 => q F2 H2 T2 s2 (g1.trans g2) (k1.trans k2)
  | false => exact q F1 H1 T1 s1 g1 k1
theorem et_or {x y : Bool} (h1 : EvT K M t env x env1) (h2 : x = false → EvT K M u env1 y env1) : EvT K M (tOr t u) env (x || y) env1 := fun B F H σ T s Q q => h1 B F H σ T s _ fun F1 H1 T1 s1 g1 k1 => by
  cases x with
  | false => exact h2 rfl B F1 H1 σ T1 s1 _ fun F2 H2 T2 s2 g2 k2 => q F2 H2 T2 s2 (g1.trans g2) (k1.trans k2)
  | true => exact q F1 H1 T1 s1 g1 k1
theorem ev_andV {x y : Bool} (h1 : Ev K M ta env (.bl x) env1) (h2 : x = true → Ev K M tb env1 (.bl y) env1) : Ev K M (tAndV ta tb) env (.bl (x && y)) env1 := fun B F H σ T s Q q => h1 B F H σ T s _ fun v F1 H1 T1 s1 g1 k1 r1 => ⟨x, r1, by
  cases x with
  | true => exact h2 rfl B F1 H1 σ T1 s1 _ fun v F2 H2 T2 s2 g2 k2 r2 => q v F2 H2 T2 s2 (g1.trans g2) (k1.trans k2) r2
  | false => exact q _ F1 H1 T1 s1 g1 k1 rfl⟩
theorem ev_orV {x y : Bool} (h1 : Ev K M ta env (.bl x) env1) (h2 : x = false → Ev K M tb env1 (.bl y) env1) : Ev K M (tOrV ta tb) env (.bl (x || y)) env1 := fun B F H σ T s Q q => h1 B F H σ T s _ fun v F1 H1 T1 s1 g1 k1 r1 => ⟨x, r1, by
  cases x with
  | false => exact h2 rfl B F1 H1 σ T1 s1 _ fun v F2 H2 T2 s2 g2 k2 r2 => q v F2 H2 T2 s2 (g1.trans g2) (k1.trans k2) r2
  | true => exact q _ F1 H1 T1 s1 g1 k1 rfl⟩
theorem ev_notV {x : Bool} (h1 : Ev K M ta env (.bl x) env1) : Ev K M (tNotV ta) env (.bl (!x)) env1 := fun B F H σ T s Q q => h1 B F H σ T s _ fun v F1 H1 T1 s1 g1 k1 r1 => ⟨x, r1, q _ F1 H1 T1 s1 g1 k1 rfl⟩
theorem ev_if {x : Bool} (h : EvT K M t env x env1) (h1 : x = true → Ev K M ta env1 d env2) (h2 : x = false → Ev K M tb env1 d env2) : Ev K M (tIf t ta tb) env d env2 := fun B F H σ T s Q q => h B F H σ T s _ fun F1 H1 T1 s1 g1 k1 => by
  cases x with
  | true => exact h1 rfl B F1 H1 σ T1 s1 _ fun v F2 H2 T2 s2 g2 k2 r2 => q v F2 H2 T2 s2 (g1.trans g2) (k1.trans k2) r2
  | false => exact h2 rfl B F1 H1 σ T1 s1 _ fun v F2 H2 T2 s2 g2 k2 r2 => q v F2 H2 T2 s2 (g1.trans g2) (k1.trans k2) r2
theorem ev_chain {r r' : R2} {x y : Bool} (ha : Ev K M ta env a env1) (hb : Ev K M tb env1 b env2) (hr : R2D K r a b (.bl x)) (h1 : x = true → Ev K M tc env2 c env2 ∧ R2D K r' b c (.bl y)) :
    Ev K M (tChain r r' ta tb tc) env (.bl (x && y)) env2 := fun B F H σ T s Q q =>
  ha B F H σ T s _ fun v F1 H1 T1 s1 g1 k1 r1 => hb B F1 H1 σ T1 s1 _ fun w F2 H2 T2 s2 g2 k2 r2 => hr F2 H2 v w s2.fh (r1.mono g2.f) r2 _ fun z F3 H3 u3 rz => by
    have s3 := s2.up u3
    have g3 := (g1.trans g2).trans (.of_up s2.bh u3)
    refine ⟨x, rz, ?_⟩
    cases x with
    | true =>
      obtain ⟨hc, hr'⟩ := h1 rfl
      refine iteT (hc B F3 H3 σ T2 s3 _ fun t F4 H4 T4 s4 g4 k4 r4 => hr' F4 H4 w t s4.fh ((r2.mono u3.f).mono g4.f) r4 _ fun z F5 H5 u5 r5 => ?_)
      exact q z F5 H5 T4 (s4.up u5) ((g3.trans g4).trans (.of_up s4.bh u5)) ((k1.trans k2).trans k4) r5
    | false => exact iteF (q _ F3 H3 T2 s3 g3 (k1.trans k2) rfl)
/-! slices -/
theorem eo_none : EvO K M tNoPart env none env := fun B F H σ T s Q q => q F H T s .refl .refl
theorem eo_some {i : Int} (h : Ev K M te env (.int i) env1) : EvO K M (tPart te) env (some i) env1 := fun B F H σ T s Q q => h B F H σ T s _ fun v F1 H1 T1 s1 g1 k1 r1 => ⟨i, r1, q F1 H1 T1 s1 g1 k1⟩
/-- xs[lo:hi] of any list -/
def cutL {α : Type} (xs : List α) (lo hi : Option Int) : List α := (xs.drop (HT.sIx xs.length 0 lo)).take (HT.sIx xs.length xs.length hi - HT.sIx xs.length 0 lo)
theorem cutL_map {α β : Type} (f : α → β) (xs : List α) (lo hi : Option Int) : cutL (xs.map f) lo hi = (cutL xs lo hi).map f := by
  unfold cutL
  rw [List.length_map, List.map_take, List.map_drop]
theorem cut_rep {H : Hp} {ds : List D} {vs : List V} (r : RepL K H ds vs) (lo hi : Option Int) : RepL K H (cutL ds lo hi) (cutV vs lo hi) := by
  unfold cutL cutV
  rw [r.len]
  exact (r.drop _).take _
theorem ev_slL {tl th : TO} {ds : List D} {lo hi : Option Int} (he : Ev K M te env (.lst ds) env1) (hl : EvO K M tl env1 lo env2) (hh : EvO K M th env2 hi env3) : Ev K M (tSl (uSl K) te tl th) env (.lst (cutL ds lo hi)) env3 := fun B F H σ T s Q q =>
  he B F H σ T s _ fun v F1 H1 T1 s1 g1 k1 ⟨a, us, h1, ha, ra⟩ => hl B F1 H1 σ T1 s1 _ fun F2 H2 T2 s2 g2 k2 => hh B F2 H2 σ T2 s2 _ fun F3 H3 T3 s3 g3 k3 => .inl ⟨a, us, h1, sq_of (s3.fh _ _ (g3.f _ _ (g2.f _ _ ha))), fun p hp => by
    have u := Up.new (o := .lst (cutV us lo hi)) s3.fh hp
    exact q _ _ _ T3 (s3.up u) ((g1.trans (g2.trans g3)).trans (.of_up s3.bh u)) (k1.trans (k2.trans k3)) ⟨p, _, rfl, upd_same, (cut_rep ra lo hi).mono (g2.f.trans (g3.f.trans u.f))⟩⟩
theorem ev_slT {tl th : TO} {ds : List D} {lo hi : Option Int} (he : Ev K M te env (.tup ds) env1) (hl : EvO K M tl env1 lo env2) (hh : EvO K M th env2 hi env3) : Ev K M (tSl (uSl K) te tl th) env (.tup (cutL ds lo hi)) env3 := fun B F H σ T s Q q =>
  he B F H σ T s _ fun v F1 H1 T1 s1 g1 k1 ⟨a, us, h1, ha, ra⟩ => hl B F1 H1 σ T1 s1 _ fun F2 H2 T2 s2 g2 k2 => hh B F2 H2 σ T2 s2 _ fun F3 H3 T3 s3 g3 k3 => .inr (.inl ⟨a, us, h1, st_of (s3.fh _ _ (g3.f _ _ (g2.f _ _ ha))), fun hw => by
    refine q _ F3 H3 T3 s3 (g1.trans (g2.trans g3)) (k1.trans (k2.trans k3)) ⟨a, us, rfl, g3.f _ _ (g2.f _ _ ha), ?_⟩
    have hc : cutL ds lo hi = ds := by
      unfold cutL
      rw [← ra.len, hw.1, hw.2, List.drop_zero, Nat.sub_zero, ra.len, List.take_length]
    rw [hc]
    exact ra.mono (g2.f.trans g3.f), fun _ p hp => by
    have u := Up.new (o := .tup (cutV us lo hi)) s3.fh hp
    exact q _ _ _ T3 (s3.up u) ((g1.trans (g2.trans g3)).trans (.of_up s3.bh u)) (k1.trans (k2.trans k3)) ⟨p, _, rfl, upd_same, (cut_rep ra lo hi).mono (g2.f.trans (g3.f.trans u.f))⟩⟩)
theorem ev_slS {tl th : TO} {z : Str} {lo hi : Option Int} (he : Ev K M te env (.str z) env1) (hl : EvO K M tl env1 lo env2) (hh : EvO K M th env2 hi env3) (hz : z.length ≤ 100000) : Ev K M (tSl (uSl K) te tl th) env (.str (cutS z lo hi)) env3 := fun B F H σ T s Q q =>
  he B F H σ T s _ fun v F1 H1 T1 s1 g1 k1 r1 => hl B F1 H1 σ T1 s1 _ fun F2 H2 T2 s2 g2 k2 => hh B F2 H2 σ T2 s2 _ fun F3 H3 T3 s3 g3 k3 => .inr (.inr ⟨z, r1, sz_of hz, q _ F3 H3 T3 s3 (g1.trans (g2.trans g3)) (k1.trans (k2.trans k3)) rfl⟩)
/-! texts -/
def rSplit : V → List V → Hp → VK → Prop := fun x xs H Q => ∃ a b, x = .str a ∧ xs = [.str b] ∧ (b.length == 0) = false ∧ a.length + 2 ≤ sizeLine ∧ rNewStrs (Txt.split a b) H Q
def rJoin (K : PySem.W.Frag) : V → List V → Hp → VK → Prop := fun x xs H Q => ∃ a p, ∃ ys : List Str, x = .str a ∧ xs = [.ref p] ∧ (SqL K H p (ys.map V.str) ∨ SqT K H p (ys.map V.str)) ∧
    (ys.map (·.length)).sum + ys.length * a.length ≤ 16777216 ∧ Q (.str (Txt.join a ys)) H
def uNeg : V → Hp → VK → Prop := rU fun i => .int (-i)
theorem d_uNeg {i : Int} : R1D K uNeg (.int i) (.int (-i)) := d_neg
theorem ev_split {x y : Str} (ha : Ev K M te env (.str x) env1) (hb : Ev K M tb env1 (.str y) env2) (hy : (y.length == 0) = false) (hx : x.length ≤ 90000) : Ev K M (tM1 rSplit te tb) env (.lst ((Txt.split x y).map .str)) env2 := fun B F H σ T s Q q =>
  ha B F H σ T s _ fun v F1 H1 T1 s1 g1 k1 r1 => ⟨⟨x, r1⟩, hb B F1 H1 σ T1 s1 _ fun w F2 H2 T2 s2 g2 k2 r2 => ⟨x, y, r1, by rw [show w = .str y from r2], hy, Nat.le_trans (show x.length + 2 ≤ 100000 by omega) (by decide), fun p hp => by
    have u := Up.new (o := .lst ((Txt.split x y).map V.str)) s2.fh hp
    exact q _ _ _ T2 (s2.up u) ((g1.trans g2).trans (.of_up s2.bh u)) (k1.trans k2) ⟨p, _, rfl, upd_same, RepL.of_strs⟩⟩⟩
theorem ev_join {x : Str} {ys : List Str} (ha : Ev K M te env (.str x) env1) (hb : Ev K M tb env1 (.lst (ys.map .str)) env2) (hz : (ys.map (·.length)).sum + ys.length * x.length ≤ 16777216) : Ev K M (tM1 (rJoin K) te tb) env (.str (Txt.join x ys)) env2 := fun B F H σ T s Q q =>
  ha B F H σ T s _ fun v F1 H1 T1 s1 g1 k1 r1 => ⟨⟨x, r1⟩, hb B F1 H1 σ T1 s1 _ fun w F2 H2 T2 s2 g2 k2 ⟨p, us, h1, h2, h3⟩ => ⟨x, p, ys, r1, by rw [h1], .inl (by rw [← RepL.strs h3]; exact sq_of (s2.fh _ _ h2)), hz, q _ F2 H2 T2 s2 (g1.trans g2) (k1.trans k2) rfl⟩⟩
/-- the ints of range -/
def rngI (n : Int) : List Int := (List.range n.toNat).map fun i => ((i : Nat) : Int)
def rngI2 (lo n : Int) : List Int := (List.range (n - lo).toNat).map fun i => lo + ((i : Nat) : Int)
theorem rngI_map (n : Int) : (rngI n).map D.int = (List.range n.toNat).map fun i => D.int (i : Nat) := by rw [rngI, List.map_map]; rfl
theorem rngI2_map (lo n : Int) : (rngI2 lo n).map D.int = (List.range (n - lo).toNat).map fun i => D.int (lo + (i : Nat)) := by rw [rngI2, List.map_map]; rfl
theorem ev_lstRg {n : Int} (h : Ev K M te env (.int n) env1) (h0 : 0 ≤ n) (h1 : n ≤ 100000) : Ev K M (tLstRg (tRg1 te)) env (.lst ((rngI n).map .int)) env1 := fun B F H σ T s Q q =>
  h B F H σ T s _ fun v F1 H1 T1 s1 g1 k1 r1 => ⟨n, r1, ⟨by omega, by omega, by omega, by omega, by omega⟩, fun p hp => by
    have u := Up.new (o := .lst (rgV 0 n)) s1.fh hp
    refine q _ _ _ T1 (s1.up u) (g1.trans (.of_up s1.bh u)) k1 ⟨p, _, rfl, upd_same, ?_⟩
    have : ∀ m : Nat, ∀ F : Hp, RepL K F ((List.range m).map fun i => D.int (i : Nat)) ((List.range m).map fun i => V.int (0 + (i : Nat))) := fun m F => by
      induction m with
      | zero => rfl
      | succ m ih =>
        rw [List.range_succ, List.map_append, List.map_append]
        exact ih.snoc (show V.int (0 + (m : Int)) = V.int m by rw [Int.zero_add])
    have t := this n.toNat
    unfold rgV
    rw [Int.sub_zero, rngI_map]
    exact t _⟩
theorem ev_indexI {ns : List Int} {x : Int} (ho : Ev K M ta env (.lst (ns.map .int)) env1) (he : Ev K M te env1 (.int x) env2) (hx : x ∈ ns) :
    Ev K M (tBM K "list" (rIndex K) ta (tCons te tNil)) env (.int (ns.idxOf x : Nat)) env2 := fun B F H σ T s Q q =>
  ho B F H σ T s _ fun v F1 H1 T1 s1 g1 k1 ⟨a, us, h1, ha, ra⟩ => by
    subst h1
    refine ⟨Or.inl ⟨rfl, us, sq_of (s1.fh _ _ ha)⟩, he B F1 H1 σ T1 s1 _ fun w F2 H2 T2 s2 g2 k2 r2 => ?_⟩
    have hl : ns.idxOf x < ns.length := List.idxOf_lt_length_iff.mpr hx
    refine ⟨a, us, w, ns.idxOf x, .int x, rfl, rfl, sq_of (s2.fh _ _ (g2.f _ _ ha)), by rw [show w = .int x from r2]; rfl, by rw [RepL.ints ra]; exact flat_ints, ?_, by rw [show w = .int x from r2, eqv_ints]; simp, fun m z hm hz => ?_, q _ F2 H2 T2 s2 (g1.trans g2) (k1.trans k2) rfl⟩
    · rw [RepL.ints ra, List.getElem?_map, List.getElem?_eq_getElem hl, List.getElem_idxOf hl]; rfl
    · rw [RepL.ints ra, List.getElem?_map] at hz
      obtain ⟨n, hn, rfl⟩ := Option.map_eq_some_iff.mp hz
      rw [show w = .int x from r2, eqv_ints]
      have hm2 : m < ns.length := (List.getElem?_eq_some_iff.mp hn).1
      have : n = ns[m] := by rw [List.getElem?_eq_getElem hm2] at hn; exact (Option.some.inj hn).symm
      rw [this]
      exact decide_eq_false fun z => absurd (List.not_of_lt_findIdx (p := (· == x)) (by simpa [List.idxOf] using hm)) (by simpa using z)
/-! d == {} -/
theorem ev_eqE {ks : List Key} {ds : List D} (h : Ev K M te env (.dic ks ds) env1) : Ev K M (tOp (uEq K) te tDNewK) env (.bl ks.isEmpty) env1 := fun B F H σ T s Q q =>
  h B F H σ T s _ fun x F1 H1 T1 s1 g1 k1 ⟨a, vs, hx, ha, hl, ra⟩ => fun p hp => .inr (.inr ⟨a, p, _, hx, rfl, ex_rd (Ex.new hp) (.inl (s1.fh _ _ ha)), upd_same, by
    have u := Up.heap (o := .dK []) s1.fh hp
    refine q _ F1 _ T1 (s1.up u) g1 k1 ?_
    cases ks with
    | nil => rfl
    | cons k ks => cases vs with
      | nil => cases hl
      | cons v vs => rfl⟩)
theorem ev_neE {ks : List Key} {ds : List D} (h : Ev K M te env (.dic ks ds) env1) : Ev K M (tOp (uNe K) te tDNewK) env (.bl !ks.isEmpty) env1 := fun B F H σ T s Q q =>
  h B F H σ T s _ fun x F1 H1 T1 s1 g1 k1 ⟨a, vs, hx, ha, hl, ra⟩ => fun p hp => .inr (.inr ⟨a, p, _, hx, rfl, ex_rd (Ex.new hp) (.inl (s1.fh _ _ ha)), upd_same, by
    have u := Up.heap (o := .dK []) s1.fh hp
    refine q _ F1 _ T1 (s1.up u) g1 k1 ?_
    cases ks with
    | nil => rfl
    | cons k ks => cases vs with
      | nil => cases hl
      | cons v vs => rfl⟩)
theorem lk_at {ns : List Str} {vs : List V} {os : List D} {H : Hp} {f : Str} {d : D} : RepL K H os vs → (ns.zip os).lookup f = some d → ∃ v, (ns.zip vs).lookup f = some v ∧ Rep K H d v := by
  induction ns generalizing vs os with
  | nil => intro _ h; simp at h
  | cons n ns ih =>
    intro r h
    cases os with
    | nil => simp at h
    | cons o os =>
      obtain ⟨w, ws, rfl, h1, h2⟩ := r
      rw [List.zip_cons_cons, List.lookup_cons] at h ⊢
      split at h
      · cases h; exact ⟨w, rfl, h1⟩
      · exact ih h2 h
theorem ev_fldS {C : Addr} {f : Str} {ns : List Str} {os : List D} (ho : Ev K M ta env (.obj C ns os) env1) (hf : (ns.zip os).lookup f = some d) (c : Cls K C) (hn : NoAttr K C f) : Ev K M (tFld K ta f) env d env1 := fun B F H σ T s Q q =>
  ho B F H σ T s _ fun v F1 H1 T1 s1 g1 k1 ⟨a, dx, vs, h1, h2, h3, h4⟩ => by
    obtain ⟨w, hw, rw1⟩ := lk_at h4 hf
    exact ⟨a, C, dx, _, w, h1, s1.fh _ _ h2, c, hn, hw, q w F1 H1 T1 s1 g1 k1 rw1⟩
end
end Dm

set_option Elab.async false
set_option linter.all false
set_option maxRecDepth 100000
set_option maxHeartbeats 4000000
set_option autoImplicit false
/-! Df: statements, loops, comprehensions; in Lean: as functions that may fail. -/
namespace L2
open PySem PySem.Spec PyProof.Rows
/-- (a, b, ..) = a tuple or a list of that length -/
def gU (K : PySem.W.Frag) (n : Nat) (t : TGs) : TG := fun v σ H Q => gTup K n t v σ H Q ∨ gLst K n t v σ H Q
theorem pg_gU {X : Cx} {pos : Pos} {es : List Expr} {k : Nat} {t : TGs} {n : Nat} (hc : X.calm = true) (h : PGs X es t)
    (hn : (assignEach es X.env).length = n := by rfl) (hst : (assignEach es X.env).findIdx? (·.1) = none := by rfl) : PG X (.Tuple es k pos) (gU X.K n t) :=
  ⟨fun pins s σ H v u Q I r hw => hw.elim ((pg_tup hc h hn hst).run pins s σ H v u Q I r) ((pg_lst hc h hn hst).run pins s σ H v u Q I r)⟩
end L2
namespace Dm
open PySem L2 Evl StX PyProof.Rows
variable {K : PySem.W.Frag} {M : List Nat}
/-- what is told: a value, a new thing -/
inductive Res where
  | v (d : D) | w (o : OD)
structure Post where
  n : List Slot → Prop
  r : Res → List Slot → Prop
  b : List Slot → Prop := fun _ => False
  c : List Slot → Prop := fun _ => False
structure Fin (K : PySem.W.Frag) (M : List Nat) (B F : Hp) (T : Nat → AD) (P : Post) (E : Ends) : Prop where
  n : ∀ σ' F' H' env' T', RepS K B F' H' σ' env' T' → Gr B F F' → Keep M T T' → P.n env' → E.nx σ' H'
  r : ∀ v σ' F' H' env' T' d, RepS K B F' H' σ' env' T' → Gr B F F' → Keep M T T' → Rep K F' d v → P.r (.v d) env' → E.rt v H'
  w : ∀ t σ' F' H' env' T' o, RepS K B F' H' σ' env' T' → Gr B F F' → Keep M T T' → RepA K F' H' o t → t.fp.Nodup → (∀ a ∈ t.fp, B a = none ∧ F' a = none) →
    (∀ (j : Nat) (u : OD) (a : Addr), env'[j]? = some (Slot.own u) → a ∈ t.fp → a ∉ (T' j).fp) → P.r (.w o) env' → E.rt t.v H'
  b : ∀ σ' F' H' env' T', RepS K B F' H' σ' env' T' → Gr B F F' → Keep M T T' → P.b env' → E.bk σ' H'
  c : ∀ σ' F' H' env' T', RepS K B F' H' σ' env' T' → Gr B F F' → Keep M T T' → P.c env' → E.ct σ' H'
theorem Fin.up {B F F1 : Hp} {T T1 : Nat → AD} {P : Post} {E : Ends} (f : Fin K M B F T P E) (g : Gr B F F1) (k : Keep M T T1) : Fin K M B F1 T1 P E :=
  ⟨fun σ' F' H' e t r h l => f.n σ' F' H' e t r (g.trans h) (k.trans l), fun v σ' F' H' e t d r h l => f.r v σ' F' H' e t d r (g.trans h) (k.trans l), fun v σ' F' H' e t d r h l => f.w v σ' F' H' e t d r (g.trans h) (k.trans l), fun σ' F' H' e t r h l => f.b σ' F' H' e t r (g.trans h) (k.trans l), fun σ' F' H' e t r h l => f.c σ' F' H' e t r (g.trans h) (k.trans l)⟩
def St (K : PySem.W.Frag) (M : List Nat) (ts : TS) (env : List Slot) (P : Post) : Prop := ∀ B F H σ T E, RepS K B F H σ env T → Fin K M B F T P E → ts E σ H
section
variable {env env1 env2 : List Slot} {P : Post} {t u w z : TS} {te ta tb : TE} {tt : TT} {d a b : D}
abbrev Post.th (P : Post) (z : TS) (K : PySem.W.Frag) (M : List Nat) : Post := { P with n := fun e => St K M z e P }
theorem q (h : St K M t env (P.th u K M)) : St K M (tSeq t u) env P := fun B F H σ T E r f =>
  h B F H σ T { E with nx := u E } r ⟨fun σ' F' H' e t r' g k hn => hn B F' H' σ' t E r' (f.up g k), f.r, f.w, f.b, f.c⟩
theorem st_mono {P' : Post} (h : St K M t env P') (hn : ∀ e, P'.n e → P.n e) (hr : ∀ d e, P'.r d e → P.r d e) (hb : ∀ e, P'.b e → P.b e) (hc : ∀ e, P'.c e → P.c e) : St K M t env P := fun B F H σ T E r f =>
  h B F H σ T E r ⟨fun σ' F' H' e t r' g k p => f.n σ' F' H' e t r' g k (hn e p), fun v σ' F' H' e t d r' g k rr p => f.r v σ' F' H' e t d r' g k rr (hr _ e p), fun v σ' F' H' e t d r' g k rr n1 n2 n3 p => f.w v σ' F' H' e t d r' g k rr n1 n2 n3 (hr _ e p), fun σ' F' H' e t r' g k p => f.b σ' F' H' e t r' g k (hb e p), fun σ' F' H' e t r' g k p => f.c σ' F' H' e t r' g k (hc e p)⟩
theorem st_sub {M' : List Nat} (h : St K M' t env P) (hs : ∀ j ∈ M', j ∈ M) : St K M t env P := fun B F H σ T E r f =>
  h B F H σ T E r ⟨fun σ' F' H' e t r' g k => f.n σ' F' H' e t r' g (k.sub hs), fun v σ' F' H' e t d r' g k => f.r v σ' F' H' e t d r' g (k.sub hs), fun v σ' F' H' e t d r' g k => f.w v σ' F' H' e t d r' g (k.sub hs), fun σ' F' H' e t r' g k => f.b σ' F' H' e t r' g (k.sub hs), fun σ' F' H' e t r' g k => f.c σ' F' H' e t r' g (k.sub hs)⟩
/-- less is known ahead -/
theorem st_weak (w : Wk env env1) (h : St K M t env1 P) : St K M t env P := fun B F H σ T E r f => h B F H σ T E (r.weak w) f
theorem st_next (h : P.n env) : St K M tNext env P := fun B F H σ T E r f => f.n σ F H env T r .refl .refl h
theorem st_brk (h : P.b env) : St K M tBreak env P := fun B F H σ T E r f => f.b σ F H env T r .refl .refl h
theorem st_cont (h : P.c env) : St K M tCont env P := fun B F H σ T E r f => f.c σ F H env T r .refl .refl h
theorem st_asg {i : Nat} (h : Ev K M te env d env1) (k : P.n (env1.set i (.val d))) : St K M (tAsg te (gName i)) env P := fun B F H σ T E r f =>
  h B F H σ T r _ fun v F1 H1 T1 r1 g1 k1 rv => f.n _ F1 H1 _ T1 (r1.set rv) g1 k1 k
theorem q_asg {i : Nat} (h : Ev K M te env d env1) (k : St K M z (env1.set i (.val d)) P) : St K M (tSeq (tAsg te (gName i)) z) env P := q (st_asg h k)
theorem st_asgW {i : Nat} {o : OD} (hi : i ∈ M) (hz : i ≠ 0) (h : EvW K M te env o env1) (k : P.n (env1.set i (.own o))) : St K M (tAsg te (gName i)) env P := fun B F H σ T E r f =>
  h B F H σ T r _ fun t F1 H1 T1 r1 g1 k1 ra nd hn dj => f.n _ F1 H1 _ _ (r1.take ra nd hn fun j u a e _ x => dj j u a e x) g1 (k1.trans (.up hi fun z => absurd z hz)) k
theorem q_asgW {i : Nat} {o : OD} (hi : i ∈ M) (hz : i ≠ 0) (h : EvW K M te env o env1) (k : St K M z (env1.set i (.own o)) P) : St K M (tSeq (tAsg te (gName i)) z) env P := q (st_asgW hi hz h k)
theorem st_ret (h : Ev K M te env d env1) (k : P.r (.v d) env1) : St K M (tRet te) env P := fun B F H σ T E r f =>
  h B F H σ T r _ fun v F1 H1 T1 r1 g1 k1 rv => f.r v σ F1 H1 env1 T1 d r1 g1 k1 rv k
theorem st_retW {o : OD} (h : EvW K M te env o env1) (k : P.r (.w o) env1) : St K M (tRet te) env P := fun B F H σ T E r f =>
  h B F H σ T r _ fun t F1 H1 T1 r1 g1 k1 ra nd hn dj => f.w t σ F1 H1 env1 T1 o r1 g1 k1 ra nd hn dj k
theorem st_retN (k : P.r (.v .non) env) : St K M tRetN env P := fun B F H σ T E r f => f.r _ σ F H env T .non r .refl .refl rfl k
theorem st_if {x : Bool} (h : EvT K M tt env x env1) (h1 : x = true → St K M u env1 P) (h2 : x = false → St K M w env1 P) : St K M (tIfS tt u w) env P := fun B F H σ T E r f =>
  h B F H σ T r _ fun F1 H1 T1 r1 g1 k1 => by
    cases x with
    | true => exact h1 rfl B F1 H1 σ T1 E r1 (f.up g1 k1)
    | false => exact h2 rfl B F1 H1 σ T1 E r1 (f.up g1 k1)
theorem q_if {x : Bool} (h : EvT K M tt env x env1) (h1 : x = true → St K M u env1 (P.th z K M)) (h2 : x = false → St K M w env1 (P.th z K M)) : St K M (tSeq (tIfS tt u w) z) env P := q (st_if h h1 h2)
theorem st_drop (h : Ev K M te env d env1) (k : P.n env1) : St K M (tDrop te) env P := fun B F H σ T E r f =>
  h B F H σ T r _ fun v F1 H1 T1 r1 g1 k1 rv => f.n σ F1 H1 env1 T1 r1 g1 k1 k
theorem q_drop (h : Ev K M te env d env1) (k : St K M z env1 P) : St K M (tSeq (tDrop te) z) env P := q (st_drop h k)
theorem q_next (h : St K M z env P) : St K M (tSeq tNext z) env P := q (st_next h)
theorem st_par {i j : Nat} {ta : TA} (h : EvA K M ta env [a, b] env1) (k : P.n ((env1.set i (.val a)).set j (.val b))) : St K M (tPar i j ta) env P := fun B F H σ T E r f =>
  h B F H σ T r _ fun vs F1 H1 T1 r1 g1 k1 ⟨v, ws, h1, h2, w, ws2, h3, h4, h5⟩ => ⟨v, w, by rw [h1, h3, show ws2 = [] from h5], f.n _ F1 H1 _ T1 ((r1.set h2).set h4) g1 k1 k⟩
theorem st_par3 {i j l : Nat} {c : D} {ta : TA} (h : EvA K M ta env [a, b, c] env1) (k : P.n (((env1.set i (.val a)).set j (.val b)).set l (.val c))) : St K M (tPar3 i j l ta) env P := fun B F H σ T E r f =>
  h B F H σ T r _ fun vs F1 H1 T1 r1 g1 k1 ⟨v, ws, h1, h2, w, ws2, h3, h4, x, ws3, h5, h6, h7⟩ => ⟨v, w, x, by rw [h1, h3, h5, show ws3 = [] from h7], f.n _ F1 H1 _ T1 (((r1.set h2).set h4).set h6) g1 k1 k⟩
end
/-! ### targets -/
/-- a target takes d: e becomes e'; slots outside vs stay -/
structure GD (K : PySem.W.Frag) (g : TG) (vs : List Nat) (d : D) (e e' : List Slot) : Prop where
  out : ∀ k, k ∉ vs → e'[k]? = e[k]?
  run : ∀ B F H σ T x, RepS K B F H σ e T → Rep K F d x → ∀ Q : L2.St → Hp → Prop,
    (∀ σ', RepS K B F H σ' e' T → σ'.length = σ.length → (∀ k, k ∉ vs → σ'[k]? = σ[k]?) → Q σ' H) → g x σ H Q
structure GsD (K : PySem.W.Frag) (g : TGs) (vs : List Nat) (ds : List D) (e e' : List Slot) : Prop where
  out : ∀ k, k ∉ vs → e'[k]? = e[k]?
  run : ∀ B F H σ T xs, RepS K B F H σ e T → RepL K F ds xs → ∀ Q : L2.St → Hp → Prop,
    (∀ σ', RepS K B F H σ' e' T → σ'.length = σ.length → (∀ k, k ∉ vs → σ'[k]? = σ[k]?) → Q σ' H) → g xs σ H Q
section
variable {e e1 e2 : List Slot} {d : D} {vs : List Nat}
theorem gd_name {i : Nat} (hv : i ∈ vs) : GD K (gName i) vs d e (e.set i (.val d)) := ⟨fun k hk => List.getElem?_set_ne fun z => hk (by rw [← z]; exact hv), fun B F H σ T x r rx Q q =>
  q _ (r.set rx) (by simp) fun k hk => List.getElem?_set_ne fun z => hk (by rw [← z]; exact hv)⟩
theorem gs_nil : GsD K gNil vs [] e e := ⟨fun _ _ => rfl, fun B F H σ T xs r rx Q q => ⟨rx, q σ r rfl fun _ _ => rfl⟩⟩
theorem gs_cons {t : TG} {u : TGs} {ds : List D} (h1 : GD K t vs d e e1) (h2 : GsD K u vs ds e1 e2) : GsD K (gCons t u) vs (d :: ds) e e2 := ⟨fun k hk => (h2.out k hk).trans (h1.out k hk), fun B F H σ T xs r ⟨w, ws, hx, r1, r2⟩ Q q =>
  ⟨w, ws, hx, h1.run B F H σ T w r r1 _ fun σ1 s1 l1 k1 => h2.run B F H σ1 T ws s1 r2 _ fun σ2 s2 l2 k2 => q σ2 s2 (l2.trans l1) fun k hk => (k2 k hk).trans (k1 k hk)⟩⟩
theorem gd_tup {n : Nat} {t : TGs} {ds : List D} (h : GsD K t vs ds e e1) (hn : ds.length = n) : GD K (gTup K n t) vs (.tup ds) e e1 := ⟨h.out, fun B F H σ T x r ⟨a, us, h1, h2, h3⟩ Q q =>
  ⟨a, us, h1, st_of (r.fh _ _ h2), by rw [h3.len]; exact hn, h.run B F H σ T us r h3 _ q⟩⟩
theorem gd_tupU {n : Nat} {t : TGs} {ds : List D} (h : GsD K t vs ds e e1) (hn : ds.length = n) : GD K (gU K n t) vs (.tup ds) e e1 := ⟨h.out, fun B F H σ T x r ⟨a, us, h1, h2, h3⟩ Q q =>
  .inl ⟨a, us, h1, st_of (r.fh _ _ h2), by rw [h3.len]; exact hn, h.run B F H σ T us r h3 _ q⟩⟩
theorem gd_lstU {n : Nat} {t : TGs} {ds : List D} (h : GsD K t vs ds e e1) (hn : ds.length = n) : GD K (gU K n t) vs (.lst ds) e e1 := ⟨h.out, fun B F H σ T x r ⟨a, us, h1, h2, h3⟩ Q q =>
  .inr ⟨a, us, h1, sq_of (r.fh _ _ h2), by rw [h3.len]; exact hn, h.run B F H σ T us r h3 _ q⟩⟩
theorem st_asgG {te : TE} {g : TG} {env env1 env2 : List Slot} {P : Post} (h : Ev K M te env d env1) (hg : GD K g vs d env1 env2) (k : P.n env2) : St K M (tAsg te g) env P := fun B F H σ T E r f =>
  h B F H σ T r _ fun v F1 H1 T1 r1 g1 k1 rv => hg.run B F1 H1 σ T1 v r1 rv _ fun σ' r' _ _ => f.n σ' F1 H1 env2 T1 r' g1 k1 k
theorem q_asgG {te : TE} {g : TG} {z : TS} {env env1 env2 : List Slot} {P : Post} (h : Ev K M te env d env1) (hg : GD K g vs d env1 env2) (k : St K M z env2 P) : St K M (tSeq (tAsg te g) z) env P := q (st_asgG h hg k)
end
/-! ### what a loop walks -/
def WalkD (K : PySem.W.Frag) (J : L2.It) (Wp : List Slot → (Nat → AD) → Prop) (F0 : Hp) (ds : List D) : Prop := ∀ B F H σ e T, RepS K B F H σ e T → Wp e T → Ex F0 F →
  (∀ i, i < ds.length → J.go i H) ∧ J.stop ds.length H ∧ ∀ i d x H', ds[i]? = some d → J.yld i H x H' → ∃ F', Up F H F' H' ∧ Rep K F' d x
/-- Wp: what of the slots must stand while it walks -/
def It (K : PySem.W.Frag) (M : List Nat) (wi : TI) (env : List Slot) (ds : List D) (env1 : List Slot) (Wp : (Nat → AD) → List Slot → (Nat → AD) → Prop) : Prop := ∀ B F H σ T, RepS K B F H σ env T → ∀ R : L2.It → Hp → Prop,
  (∀ J F' H' T', RepS K B F' H' σ env1 T' → Gr B F F' → Keep M T T' → WalkD K J (Wp T') F' ds → R J H') → wi σ H R
abbrev Free : (Nat → AD) → List Slot → (Nat → AD) → Prop := fun _ _ _ => True
/-- slot i's own thing stands as it is -/
abbrev Stays (i : Nat) (env1 : List Slot) : (Nat → AD) → List Slot → (Nat → AD) → Prop := fun T0 e T => e[i]? = env1[i]? ∧ T i = T0 i
section
variable {tl : TE} {env env1 : List Slot}
theorem it_anyL {ds : List D} (h : Ev K M tl env (.lst ds) env1) : It K M (iAny K tl) env ds env1 Free := fun B F H σ T s R q =>
  h B F H σ T s _ fun v F1 H1 T1 s1 g1 k1 ⟨a, us, h1, ha, ra⟩ => .inl ⟨a, h1, ⟨us, sq_of (s1.fh _ _ ha)⟩, q _ F1 H1 T1 s1 g1 k1 fun B F H σ e T r _ x => by
    have hs : SqL K H a us := sq_of (r.fh _ _ (x _ _ ha))
    refine ⟨fun i hi => ?_, ⟨us, hs, by rw [ra.len]; exact Nat.le_refl _⟩, fun i d y H' hd hy => ?_⟩
    · obtain ⟨v, hv, _⟩ := ra.get (List.getElem?_eq_getElem hi)
      exact ⟨us, v, hs, hv⟩
    · obtain ⟨e1, hy⟩ := hy
      subst e1
      obtain ⟨v, hv, rv⟩ := ra.get hd
      have := hy us hs
      rw [hv] at this
      cases this
      exact ⟨F, .refl r.fh, rv.mono x⟩⟩
theorem it_anyT {ds : List D} (h : Ev K M tl env (.tup ds) env1) : It K M (iAny K tl) env ds env1 Free := fun B F H σ T s R q =>
  h B F H σ T s _ fun v F1 H1 T1 s1 g1 k1 ⟨a, us, h1, ha, ra⟩ => .inr (.inl ⟨a, h1, ⟨us, st_of (s1.fh _ _ ha)⟩, q _ F1 H1 T1 s1 g1 k1 fun B F H σ e T r _ x => by
    have hs : SqT K H a us := st_of (r.fh _ _ (x _ _ ha))
    refine ⟨fun i hi => ?_, ⟨us, hs, by rw [ra.len]; exact Nat.le_refl _⟩, fun i d y H' hd hy => ?_⟩
    · obtain ⟨v, hv, _⟩ := ra.get (List.getElem?_eq_getElem hi)
      exact ⟨us, v, hs, hv⟩
    · obtain ⟨e1, hy⟩ := hy
      subst e1
      obtain ⟨v, hv, rv⟩ := ra.get hd
      have := hy us hs
      rw [hv] at this
      cases this
      exact ⟨F, .refl r.fh, rv.mono x⟩⟩)
/-- the signs of a text -/
def sgs (z : Str) : List Str := z.cps.toList.map fun c => ⟨#[c]⟩
theorem it_anyS {z : Str} (h : Ev K M tl env (.str z) env1) : It K M (iAny K tl) env ((sgs z).map .str) env1 Free := fun B F H σ T s R q =>
  h B F H σ T s _ fun v F1 H1 T1 s1 g1 k1 r1 => .inr (.inr ⟨z, r1, q _ F1 H1 T1 s1 g1 k1 fun B F H σ e T r _ x => by
    rw [sgs, List.map_map]
    refine ⟨fun i hi => by simpa [Its] using hi, by simp [Its], fun i d y H' hd hy => ?_⟩
    obtain ⟨e1, c, hc, rfl⟩ := hy
    subst e1
    rw [List.getElem?_map] at hd
    obtain ⟨c', hc', rfl⟩ := Option.map_eq_some_iff.mp hd
    have : z.cps.toList[i]? = some c := by rw [Array.getElem?_toList]; exact hc
    rw [this] at hc'
    cases hc'
    exact ⟨F, .refl r.fh, rfl⟩⟩)
theorem it_r1 {ta : TA} {n : Int} (h : EvA K M ta env [.int n] env1) (h0 : n < 2 ^ 60) (h1 : -(2 ^ 60) < n) : It K M (iRng1 ta) env ((rngI n).map .int) env1 Free := fun B F H σ T s R q =>
  h B F H σ T s _ fun vs F1 H1 T1 s1 g1 k1 r1 => ⟨n, RepL.ints (ns := [n]) r1, by omega, by omega, q _ F1 H1 T1 s1 g1 k1 fun B F H σ e T r _ x => by
    rw [rngI_map]
    refine ⟨fun i hi => by simpa [Itr] using hi, by simp [Itr]; try omega, fun i d y H' hd hy => ?_⟩
    obtain ⟨e1, hy⟩ := hy
    have hi : i < n.toNat := by
      have := (List.getElem?_eq_some_iff.mp hd).1
      simpa using this
    rw [List.getElem?_map, List.getElem?_range hi] at hd
    cases hd
    rw [e1]
    exact ⟨F, .refl r.fh, by rw [hy]; show V.int (0 + (i : Int)) = V.int i; rw [Int.zero_add]⟩⟩
theorem it_r2 {ta : TA} {lo n : Int} (h : EvA K M ta env [.int lo, .int n] env1) (h0 : n < 2 ^ 60) (h1 : -(2 ^ 60) < n) (h2 : lo < 2 ^ 60) (h3 : -(2 ^ 60) < lo) : It K M (iRng2 ta) env ((rngI2 lo n).map .int) env1 Free := fun B F H σ T s R q =>
  h B F H σ T s _ fun vs F1 H1 T1 s1 g1 k1 r1 => ⟨lo, n, RepL.ints (ns := [lo, n]) r1, ⟨by omega, by omega, by omega, by omega⟩, q _ F1 H1 T1 s1 g1 k1 fun B F H σ e T r _ x => by
    rw [rngI2_map]
    refine ⟨fun i hi => by simpa [Itr] using hi, by simp [Itr]; try omega, fun i d y H' hd hy => ?_⟩
    obtain ⟨e1, hy⟩ := hy
    have hi : i < (n - lo).toNat := by
      have := (List.getElem?_eq_some_iff.mp hd).1
      simpa using this
    rw [List.getElem?_map, List.getElem?_range hi] at hd
    cases hd
    rw [e1]
    exact ⟨F, .refl r.fh, by rw [hy]; rfl⟩⟩
/-- of data, a list or a tuple -/
def SeqD (d : D) (ds : List D) : Prop := d = .lst ds ∨ d = .tup ds
theorem seq_k {F H : Hp} {d : D} {ds : List D} {v : V} (hd : SeqD d ds) (r : Rep K F d v) : ∃ k a us, v = .ref a ∧ RepL K F ds us ∧ ∀ F' H', Ex F F' → Ex F' H' → SqK k K H' a us := by
  rcases hd with rfl | rfl
  · obtain ⟨a, us, h1, h2, h3⟩ := r
    exact ⟨true, a, us, h1, h3, fun F' H' x y => sq_of (y _ _ (x _ _ h2))⟩
  · obtain ⟨a, us, h1, h2, h3⟩ := r
    exact ⟨false, a, us, h1, h3, fun F' H' x y => st_of (y _ _ (x _ _ h2))⟩
theorem it_en {ta : TA} {d : D} {ds : List D} (h : EvA K M ta env [d] env1) (hd : SeqD d ds) : It K M (iEn K ta) env (ds.zipIdx.map fun p => D.tup [.int (p.2 : Nat), p.1]) env1 Free := fun B F H σ T s R q =>
  h B F H σ T s _ fun vs F1 H1 T1 s1 g1 k1 r1 => by
    obtain ⟨w, rfl, rw1⟩ := one_of r1
    obtain ⟨k, a, us, rfl, ra, hk⟩ := seq_k (H := H1) hd rw1
    refine ⟨k, a, us, rfl, hk F1 H1 (.refl _) s1.fh, q _ F1 H1 T1 s1 g1 k1 fun B F H σ e T r _ x => ?_⟩
    have hs := hk F H x r.fh
    refine ⟨fun i hi => ?_, ⟨us, hs, by simp [ra.len]⟩, fun i d' y H' hd' hy => ?_⟩
    · have hi' : i < ds.length := by simpa using hi
      obtain ⟨v, hv, _⟩ := ra.get (List.getElem?_eq_getElem hi')
      exact ⟨us, v, hs, hv⟩
    · obtain ⟨T, u, rfl, hT, rfl, hy⟩ := hy
      rw [List.getElem?_map, List.getElem?_zipIdx] at hd'
      obtain ⟨p, hp, rfl⟩ := Option.map_eq_some_iff.mp hd'
      obtain ⟨d0, hd0, rfl⟩ := Option.map_eq_some_iff.mp hp
      obtain ⟨v, hv, rv⟩ := ra.get hd0
      have := hy us hs
      rw [hv] at this
      cases this
      have u := Up.new (o := .tup [.int (i : Nat), u]) r.fh hT
      refine ⟨_, u, T, _, rfl, upd_same, _, _, rfl, ?_, _, _, rfl, (rv.mono x).mono u.f, rfl⟩
      show V.int (i : Nat) = V.int ((0 + i : Nat) : Int)
      rw [Nat.zero_add]
theorem it_zp {ta : TA} {d1 d2 : D} {ds es : List D} (h : EvA K M ta env [d1, d2] env1) (h1 : SeqD d1 ds) (h2 : SeqD d2 es) : It K M (iZp K ta) env ((ds.zip es).map fun p => D.tup [p.1, p.2]) env1 Free := fun B F H σ T s R q =>
  h B F H σ T s _ fun vs F1 H1 T1 s1 g1 k1 r1 => by
    obtain ⟨w, ws, rfl, rw1, r2⟩ := r1
    obtain ⟨w2, rfl, rw2⟩ := one_of r2
    obtain ⟨k, a, us, rfl, ra, hk⟩ := seq_k (H := H1) h1 rw1
    obtain ⟨k2, b, us2, rfl, rb, hk2⟩ := seq_k (H := H1) h2 rw2
    refine ⟨k, k2, a, b, us, us2, rfl, hk F1 H1 (.refl _) s1.fh, hk2 F1 H1 (.refl _) s1.fh, q _ F1 H1 T1 s1 g1 k1 fun B F H σ e T r _ x => ?_⟩
    have hs := hk F H x r.fh
    have hs2 := hk2 F H x r.fh
    refine ⟨fun i hi => ?_, ⟨us, us2, hs, hs2, by simp [ra.len, rb.len]; omega⟩, fun i d' y H' hd' hy => ?_⟩
    · have hi' : i < ds.length ∧ i < es.length := by simp at hi; omega
      obtain ⟨v, hv, _⟩ := ra.get (List.getElem?_eq_getElem hi'.1)
      obtain ⟨v2, hv2, _⟩ := rb.get (List.getElem?_eq_getElem hi'.2)
      exact ⟨us, us2, v, v2, hs, hs2, hv, hv2⟩
    · obtain ⟨T, u, u2, rfl, hT, rfl, hy, hy2⟩ := hy
      rw [List.getElem?_map] at hd'
      obtain ⟨p, hp, rfl⟩ := Option.map_eq_some_iff.mp hd'
      obtain ⟨q1, q2⟩ := List.getElem?_zip_eq_some.mp hp
      obtain ⟨v, hv, rv⟩ := ra.get q1
      obtain ⟨v2, hv2, rv2⟩ := rb.get q2
      have e1 := hy us hs
      have e2 := hy2 us2 hs2
      rw [hv] at e1
      rw [hv2] at e2
      cases e1
      cases e2
      have u := Up.new (o := .tup [u, u2]) r.fh hT
      exact ⟨_, u, T, _, rfl, upd_same, _, _, rfl, (rv.mono x).mono u.f, _, _, rfl, (rv2.mono x).mono u.f, rfl⟩
end
/-! ### loops, as functions that may fail -/
inductive Ctl (ρ σ : Type) where
  | nx (s : σ) | bk (s : σ) | rt (r : ρ)
def forL {α σ : Type} (body : α → σ → Option σ) : List α → σ → Option σ
  | [], s => some s
  | x :: xs, s => (body x s).bind fun s' => forL body xs s'
def forC {α ρ σ : Type} (body : α → σ → Option (Ctl ρ σ)) : List α → σ → Option (Ctl ρ σ)
  | [], s => some (.nx s)
  | x :: xs, s => (body x s).bind fun
    | .nx s' => forC body xs s'
    | .bk s' => some (.nx s')
    | .rt r => some (.rt r)
def whL {σ : Type} (cond : σ → Option Bool) (body : σ → Option σ) : Nat → σ → Option σ
  | 0, _ => none
  | n + 1, s => (cond s).bind fun b => if b then (body s).bind fun s' => whL cond body n s' else some s
def whC {ρ σ : Type} (cond : σ → Option Bool) (body : σ → Option (Ctl ρ σ)) : Nat → σ → Option (Ctl ρ σ)
  | 0, _ => none
  | n + 1, s => (cond s).bind fun b => if b then (body s).bind fun
      | .nx s' => whC cond body n s'
      | .bk s' => some (.nx s')
      | .rt r => some (.rt r)
    else some (.nx s)
/-- a block's ends, by what its function gave -/
def PoC {ρ σ : Type} (J : σ → List Slot) (PR : ρ → Res → List Slot → Prop) : Ctl ρ σ → Post
  | .nx s => { n := fun e => Wk e (J s), r := fun _ _ => False, c := fun e => Wk e (J s) }
  | .bk s => { n := fun _ => False, r := fun _ _ => False, b := fun e => Wk e (J s) }
  | .rt r => { n := fun _ => False, r := PR r }
abbrev PoL {σ : Type} (J : σ → List Slot) (s : σ) : Post := { n := fun e => Wk e (J s), r := fun _ _ => False, c := fun e => Wk e (J s) }
theorem st_forC {α ρ σt : Type} {wi : TI} {g : TG} {tb : TS} {vs Mb : List Nat} {env env1 : List Slot} {P : Post} {Wp : (Nat → AD) → List Slot → (Nat → AD) → Prop} {l : List α} {φ : α → D} {J : σt → List Slot} {PR : ρ → Res → List Slot → Prop}
    {body : α → σt → Option (Ctl ρ σt)} {s0 : σt} {c : Ctl ρ σt} (hit : It K M wi env (l.map φ) env1 Wp) (h : forC body l s0 = some c) (hM : ∀ j ∈ Mb, j ∈ M) (h0 : Wk env1 (J s0)) (hw : ∀ T0 T s, Keep Mb T0 T → Wp T0 (J s) T)
    (hs : ∀ x, x ∈ l → ∀ s c, body x s = some c → ∃ e', GD K g vs (φ x) (J s) e' ∧ St K Mb tb e' (PoC J PR c))
    (hn : ∀ s, c = .nx s → P.n (J s)) (hr : ∀ r d e, c = .rt r → PR r d e → P.r d e) : St K M (tFor wi g tb) env P := fun B F H σ T E r f =>
  hit B F H σ T r _ fun Jt F1 H1 T1 r1 g1 k1 W => by
    refine ⟨fun i m σ' H' => m = l.length - i ∧ i ≤ l.length ∧ ∃ F' s T', RepS K B F' H' σ' (J s) T' ∧ Gr B F1 F' ∧ Keep Mb T1 T' ∧ forC body (l.drop i) s = some c, ⟨l.length, by simp, Nat.zero_le _, F1, s0, T1, r1.weak h0, .refl, .refl, h⟩, ?_⟩
    rintro i m σ' H' ⟨rfl, hi, F', s, T', r', g', k', hf⟩
    obtain ⟨w1, w2, w3⟩ := W B F' H' σ' (J s) T' r' (hw T1 T' s k') g'.f
    rw [List.length_map] at w1 w2
    by_cases hlt : i < l.length
    · have hdrop : l.drop i = l[i] :: l.drop (i + 1) := List.drop_eq_getElem_cons hlt
      rw [hdrop, forC] at hf
      obtain ⟨c1, hb, hc1⟩ := Option.bind_eq_some_iff.mp hf
      have hmem : l[i] ∈ l := List.getElem_mem hlt
      obtain ⟨e', hg, hst⟩ := hs l[i] hmem s c1 hb
      refine .inr ⟨w1 i hlt, fun σ'' H'' => ∃ F'' s' T'', RepS K B F'' H'' σ'' (J s') T'' ∧ Gr B F1 F'' ∧ Keep Mb T1 T'' ∧ forC body (l.drop (i + 1)) s' = some c, fun σ2 H2 p => ⟨l.length - (i + 1), by omega, rfl, hlt, p⟩, fun x H2 y => ?_⟩
      obtain ⟨F2, u2, rx⟩ := w3 i (φ l[i]) x H2 (by rw [List.getElem?_map, List.getElem?_eq_getElem hlt]; rfl) y
      have g2 : Gr B F1 F2 := g'.trans (.of_up r'.bh u2)
      refine hg.run B F2 H2 σ' T' x (r'.up u2) rx _ fun σ3 r3 _ _ => ?_
      refine hst B F2 H2 σ3 T' _ r3 ⟨?_, ?_, ?_, ?_, ?_⟩
      · intro σ4 F4 H4 e4 T4 r4 g4 k4 p
        cases c1 with
        | nx s' => exact ⟨F4, s', T4, r4.weak p, g2.trans g4, k'.trans k4, hc1⟩
        | bk s' => exact p.elim
        | rt r => exact p.elim
      · intro v σ4 F4 H4 e4 T4 d r4 g4 k4 rv p
        cases c1 with
        | nx s' => exact p.elim
        | bk s' => exact p.elim
        | rt r => exact f.r v σ4 F4 H4 e4 T4 d r4 (g1.trans (g2.trans g4)) (k1.trans ((k'.trans k4).sub hM)) rv (hr r _ e4 (Option.some.inj hc1).symm p)
      · intro v σ4 F4 H4 e4 T4 d r4 g4 k4 rv n1 n2 n3 p
        cases c1 with
        | nx s' => exact p.elim
        | bk s' => exact p.elim
        | rt r => exact f.w v σ4 F4 H4 e4 T4 d r4 (g1.trans (g2.trans g4)) (k1.trans ((k'.trans k4).sub hM)) rv n1 n2 n3 (hr r _ e4 (Option.some.inj hc1).symm p)
      · intro σ4 F4 H4 e4 T4 r4 g4 k4 p
        cases c1 with
        | nx s' => exact p.elim
        | bk s' => exact f.n σ4 F4 H4 _ T4 (r4.weak p) (g1.trans (g2.trans g4)) (k1.trans ((k'.trans k4).sub hM)) (hn s' (Option.some.inj hc1).symm)
        | rt r => exact p.elim
      · intro σ4 F4 H4 e4 T4 r4 g4 k4 p
        cases c1 with
        | nx s' => exact ⟨F4, s', T4, r4.weak p, g2.trans g4, k'.trans k4, hc1⟩
        | bk s' => exact p.elim
        | rt r => exact p.elim
    · have hi' : i = l.length := by omega
      subst hi'
      rw [List.drop_length, forC] at hf
      exact .inl ⟨w2, f.n σ' F' H' _ T' r' (g1.trans g') (k1.trans (k'.sub hM)) (hn s (Option.some.inj hf).symm)⟩
theorem forL_C {α σ : Type} {body : α → σ → Option σ} : ∀ (l : List α) (s s1 : σ), forL body l s = some s1 → forC (ρ := Empty) (fun x s => (body x s).map .nx) l s = some (.nx s1)
  | [], s, s1, h => by rw [forL] at h; rw [forC, Option.some.inj h]
  | x :: xs, s, s1, h => by
    rw [forL] at h
    obtain ⟨s', h1, h2⟩ := Option.bind_eq_some_iff.mp h
    rw [forC, h1]
    exact forL_C xs s' s1 h2
theorem st_forL {α σt : Type} {wi : TI} {g : TG} {tb : TS} {vs Mb : List Nat} {env env1 : List Slot} {P : Post} {Wp : (Nat → AD) → List Slot → (Nat → AD) → Prop} {l : List α} {φ : α → D} {J : σt → List Slot}
    {body : α → σt → Option σt} {s0 s1 : σt} (hit : It K M wi env (l.map φ) env1 Wp) (h : forL body l s0 = some s1) (hM : ∀ j ∈ Mb, j ∈ M) (h0 : Wk env1 (J s0)) (hw : ∀ T0 T s, Keep Mb T0 T → Wp T0 (J s) T)
    (hs : ∀ x, x ∈ l → ∀ s s', body x s = some s' → ∃ e', GD K g vs (φ x) (J s) e' ∧ St K Mb tb e' (PoL J s'))
    (hn : P.n (J s1)) : St K M (tFor wi g tb) env P :=
  st_forC (ρ := Empty) (PR := fun _ _ _ => False) hit (forL_C l s0 s1 h) hM h0 hw (fun x hx s c hb => by
    obtain ⟨s', h1, h2⟩ := Option.map_eq_some_iff.mp hb
    subst h2
    exact hs x hx s s' h1) (fun s e => by cases e; exact hn) (fun r => r.elim)
theorem st_whC {ρ σt : Type} {tt : TT} {tu : TS} {env : List Slot} {P : Post} {J : σt → List Slot} {PR : ρ → Res → List Slot → Prop} {cond : σt → Option Bool} {body : σt → Option (Ctl ρ σt)} {n : Nat} {s0 : σt} {c : Ctl ρ σt}
    (h : whC cond body n s0 = some c) (h0 : Wk env (J s0)) (hc : ∀ s b, cond s = some b → EvT K M tt (J s) b (J s)) (hs : ∀ s c, cond s = some true → body s = some c → St K M tu (J s) (PoC J PR c))
    (hn : ∀ s, c = .nx s → P.n (J s)) (hr : ∀ r d e, c = .rt r → PR r d e → P.r d e) : St K M (tWhile tt tu) env P := fun B F H σ T E r f => by
  refine ⟨fun m σ' H' => ∃ F' s T', RepS K B F' H' σ' (J s) T' ∧ Gr B F F' ∧ Keep M T T' ∧ whC cond body m s = some c, ⟨n, F, s0, T, r.weak h0, .refl, .refl, h⟩, ?_⟩
  rintro m σ' H' ⟨F', s, T', r', g', k', hf⟩
  cases m with
  | zero => rw [whC] at hf; cases hf
  | succ m =>
    rw [whC] at hf
    obtain ⟨b, hb, hf⟩ := Option.bind_eq_some_iff.mp hf
    refine hc s b hb B F' H' σ' T' r' _ fun F1 H1 T1 r1 g1 k1 => ?_
    cases b with
    | true =>
      rw [if_pos rfl] at hf
      obtain ⟨c1, hb1, hc1⟩ := Option.bind_eq_some_iff.mp hf
      refine iteT ⟨fun σ2 H2 => ∃ F2 s2 T2, RepS K B F2 H2 σ2 (J s2) T2 ∧ Gr B F F2 ∧ Keep M T T2 ∧ whC cond body m s2 = some c, fun σ2 H2 p => ⟨m, Nat.lt_succ_self m, p⟩, ?_⟩
      refine hs s c1 hb hb1 B F1 H1 σ' T1 _ r1 ⟨?_, ?_, ?_, ?_, ?_⟩
      · intro σ4 F4 H4 e4 T4 r4 g4 k4 p
        cases c1 with
        | nx s' => exact ⟨F4, s', T4, r4.weak p, g'.trans (g1.trans g4), k'.trans (k1.trans k4), hc1⟩
        | bk s' => exact p.elim
        | rt r => exact p.elim
      · intro v σ4 F4 H4 e4 T4 d r4 g4 k4 rv p
        cases c1 with
        | nx s' => exact p.elim
        | bk s' => exact p.elim
        | rt r => exact f.r v σ4 F4 H4 e4 T4 d r4 (g'.trans (g1.trans g4)) (k'.trans (k1.trans k4)) rv (hr r _ e4 (Option.some.inj hc1).symm p)
      · intro v σ4 F4 H4 e4 T4 d r4 g4 k4 rv n1 n2 n3 p
        cases c1 with
        | nx s' => exact p.elim
        | bk s' => exact p.elim
        | rt r => exact f.w v σ4 F4 H4 e4 T4 d r4 (g'.trans (g1.trans g4)) (k'.trans (k1.trans k4)) rv n1 n2 n3 (hr r _ e4 (Option.some.inj hc1).symm p)
      · intro σ4 F4 H4 e4 T4 r4 g4 k4 p
        cases c1 with
        | nx s' => exact p.elim
        | bk s' => exact f.n σ4 F4 H4 _ T4 (r4.weak p) (g'.trans (g1.trans g4)) (k'.trans (k1.trans k4)) (hn s' (Option.some.inj hc1).symm)
        | rt r => exact p.elim
      · intro σ4 F4 H4 e4 T4 r4 g4 k4 p
        cases c1 with
        | nx s' => exact ⟨F4, s', T4, r4.weak p, g'.trans (g1.trans g4), k'.trans (k1.trans k4), hc1⟩
        | bk s' => exact p.elim
        | rt r => exact p.elim
    | false =>
      rw [if_neg Bool.false_ne_true] at hf
      exact iteF (f.n σ' F1 H1 _ T1 r1 (g'.trans g1) (k'.trans k1) (hn s (Option.some.inj hf).symm))
theorem whL_C {σ : Type} {cond : σ → Option Bool} {body : σ → Option σ} : ∀ (n : Nat) (s s1 : σ), whL cond body n s = some s1 → whC (ρ := Empty) cond (fun s => (body s).map .nx) n s = some (.nx s1)
  | 0, s, s1, h => by rw [whL] at h; cases h
  | n + 1, s, s1, h => by
    rw [whL] at h
    obtain ⟨b, hb, h⟩ := Option.bind_eq_some_iff.mp h
    rw [whC, hb]
    cases b with
    | true =>
      rw [if_pos rfl] at h
      obtain ⟨s', h1, h2⟩ := Option.bind_eq_some_iff.mp h
      rw [Option.bind_some, if_pos rfl, h1]
      exact whL_C n s' s1 h2
    | false =>
      rw [if_neg Bool.false_ne_true] at h
      rw [Option.bind_some, if_neg Bool.false_ne_true, Option.some.inj h]
theorem st_whL {σt : Type} {tt : TT} {tu : TS} {env : List Slot} {P : Post} {J : σt → List Slot} {cond : σt → Option Bool} {body : σt → Option σt} {n : Nat} {s0 s1 : σt}
    (h : whL cond body n s0 = some s1) (h0 : Wk env (J s0)) (hc : ∀ s b, cond s = some b → EvT K M tt (J s) b (J s)) (hs : ∀ s s', cond s = some true → body s = some s' → St K M tu (J s) (PoL J s'))
    (hn : P.n (J s1)) : St K M (tWhile tt tu) env P :=
  st_whC (ρ := Empty) (PR := fun _ _ _ => False) (whL_C n s0 s1 h) h0 hc (fun s c h1 hb => by
    obtain ⟨s', h2, h3⟩ := Option.map_eq_some_iff.mp hb
    subst h3
    exact hs s s' h1 h2) (fun s e => by cases e; exact hn) (fun r => r.elim)
end Dm

set_option Elab.async false
set_option linter.all false
set_option maxRecDepth 100000
set_option maxHeartbeats 4000000
set_option autoImplicit false
/-! Dc: comprehensions. -/
namespace Dm
open PySem L2 Evl StX PyProof.Rows
variable {K : PySem.W.Frag} {M : List Nat}
def wipeE (env : List Slot) : List Nat → List Slot
  | [] => env
  | v :: vs => (wipeE env vs).set v .no
theorem wipeE_len (env : List Slot) : ∀ vs : List Nat, (wipeE env vs).length = env.length
  | [] => rfl
  | v :: vs => by show ((wipeE env vs).set v .no).length = _; rw [List.length_set, wipeE_len env vs]
theorem wipeE_get {env : List Slot} {s : Slot} : ∀ {vs : List Nat} {i : Nat}, (wipeE env vs)[i]? = some s → s = .no ∨ (i ∉ vs ∧ env[i]? = some s)
  | [], _, h => .inr ⟨by simp, h⟩
  | v :: vs, i, h => by
    have h : ((wipeE env vs).set v .no)[i]? = some s := h
    rcases set_get h with ⟨rfl, z, _⟩ | ⟨hj, z⟩
    · exact .inl z
    · rcases wipeE_get z with z | ⟨z, y⟩
      · exact .inl z
      · exact .inr ⟨by simp; exact ⟨fun q => hj q.symm, z⟩, y⟩
theorem wipe_get {σ : L2.St} : ∀ {vs : List Nat} {i : Nat}, i ∉ vs → (wipe σ vs)[i]? = σ[i]?
  | [], _, _ => rfl
  | v :: vs, i, h => by
    show ((wipe σ vs).set v none)[i]? = _
    rw [List.getElem?_set_ne (fun q => h (by simp [q]))]
    exact wipe_get fun q => h (by simp [q])
theorem wipe_none {σ : L2.St} : ∀ {vs : List Nat} {i : Nat}, i ∈ vs → i < σ.length → (wipe σ vs)[i]? = some none
  | [], _, h, _ => by simp at h
  | v :: vs, i, h, hl => by
    show ((wipe σ vs).set v none)[i]? = _
    by_cases hv : v = i
    · subst hv; exact List.getElem?_set_self (by rw [wipe_length]; exact hl)
    · rw [List.getElem?_set_ne hv]
      rcases List.mem_cons.mp h with z | z
      · exact absurd z.symm hv
      · exact wipe_none z hl
theorem wipe_eq {σ σ' : L2.St} {vs : List Nat} (hl : σ'.length = σ.length) (h : ∀ k, k ∉ vs → σ'[k]? = σ[k]?) : wipe σ' vs = wipe σ vs := by
  refine List.ext_getElem? fun k => ?_
  by_cases hk : k ∈ vs
  · rcases Nat.lt_or_ge k σ.length with z | z
    · rw [wipe_none hk z, wipe_none hk (by omega)]
    · rw [List.getElem?_eq_none (by rw [wipe_length]; omega), List.getElem?_eq_none (by rw [wipe_length]; omega)]
  · rw [wipe_get hk, wipe_get hk, h k hk]
theorem RepS.wipe {B F H : Hp} {σ : L2.St} {env : List Slot} {T : Nat → AD} (r : RepS K B F H σ env T) (vs : List Nat) : RepS K B F H (L2.wipe σ vs) (wipeE env vs) T where
  bh := r.bh
  fh := r.fh
  val := fun i d e => by
    rcases wipeE_get e with z | ⟨z, y⟩
    · cases z
    · rw [wipe_get z]; exact r.val i d y
  own := fun i o e => by
    rcases wipeE_get e with z | ⟨z, y⟩
    · cases z
    · rw [wipe_get z]; exact r.own i o y
  sep := fun i j o u a e1 e2 => by
    rcases wipeE_get e1 with z | ⟨z, y⟩
    · cases z
    · rcases wipeE_get e2 with z' | ⟨z', y'⟩
      · cases z'
      · exact r.sep i j o u a y y'
  len := by rw [wipeE_len, wipe_length]; exact r.len
/-- what a turn leaves of one's own -/
def Out (vs : List Nat) (e o : List Slot) : Prop := ∀ (i : Nat) (u : OD), o[i]? = some (Slot.own u) → i ∉ vs ∧ e[i]? = some (Slot.own u)
/-- behind a turn -/
theorem RepS.out {B F H F3 H3 : Hp} {σ σ3 : L2.St} {env e3 env' : List Slot} {T T3 : Nat → AD} {vs : List Nat} (r : RepS K B F H σ env T) (r3 : RepS K B F3 H3 σ3 e3 T3) (g : Gr B F F3) (hk : ∀ k, k ∉ vs → σ3[k]? = σ[k]?)
    (hv : ∀ (i : Nat) (d : D), env'[i]? = some (Slot.val d) → env[i]? = some (Slot.val d)) (ho : Out vs e3 env') (hl : env'.length = env.length) : RepS K B F3 H3 σ env' T3 where
  bh := r3.bh
  fh := r3.fh
  val := fun i d e => let ⟨v, h1, h2⟩ := r.val i d (hv i d e); ⟨v, h1, h2.mono g.f⟩
  own := fun i o e => by
    obtain ⟨h1, h2⟩ := ho i o e
    have := r3.own i o h2
    rw [hk i h1] at this
    exact this
  sep := fun i j o u a e1 e2 => r3.sep i j o u a (ho i o e1).2 (ho j u e2).2
  len := hl.trans r.len
/-! as a function that may fail -/
def lcG {α β σ : Type} (f : α → σ → Option (Option β × σ)) : List α → σ → Option (List β × σ)
  | [], s => some ([], s)
  | x :: xs, s => (f x s).bind fun p => (lcG f xs p.2).map fun r => (p.1.toList ++ r.1, r.2)
def lcS {α β σ : Type} (f : α → σ → Option (Option β × σ)) (l : List α) (s : σ) : Option (List β × σ) := if l.length ≤ 90000 then lcG f l s else none
/-- a turn of a comprehension -/
def Turn (K : PySem.W.Frag) (M : List Nat) (g : TG) (tt : TT) (te : TE) (vs : List Nat) (d : D) (e : List Slot) (y : Option D) (o : List Slot) : Prop :=
  ∃ e', GD K g vs d (wipeE e vs) e' ∧ ∃ b e2, EvT K M tt e' b e2 ∧ (b = false → y = none ∧ Out vs e2 o) ∧ (b = true → ∃ z e3, Ev K M te e2 z e3 ∧ y = some z ∧ Out vs e3 o)
theorem ew_lcS {α β σt : Type} {wi : TI} {g : TG} {tt : TT} {te : TE} {vs : List Nat} {env env1 : List Slot} {Wp : (Nat → AD) → List Slot → (Nat → AD) → Prop} {l : List α} {φ : α → D} {ψ : β → D} {J : σt → List Slot}
    {f : α → σt → Option (Option β × σt)} {s0 s1 : σt} {ys : List β} {M' : List Nat} (h : It K M wi env (l.map φ) env1 Wp) (hf : lcS f l s0 = some (ys, s1)) (hM : ∀ j ∈ M', j ∈ M) (h0 : env1 = J s0)
    (hw : ∀ T0 T s, Keep M' T0 T → Wp T0 (wipeE (J s) vs) T) (hv : ∀ s s' (i : Nat) (d : D), (J s)[i]? = some (Slot.val d) → (J s')[i]? = some (Slot.val d)) (hlen : ∀ s s', (J s).length = (J s').length)
    (hs : ∀ a, a ∈ l → ∀ s p, f a s = some p → Turn K M' g tt te vs (φ a) (J s) (p.1.map ψ) (J p.2)) : EvW K M (tLc wi g tt te vs) env (.lst ((ys.map ψ).map .val)) (J s1) := fun B F H σ T r Q q =>
  h B F H σ T r _ fun Jt F1 H1 T1 r1 g1 k1 W Dl hD => by
    subst h0
    unfold lcS at hf
    by_cases hl : l.length ≤ 90000
    case neg => rw [if_neg hl] at hf; cases hf
    rw [if_pos hl] at hf
    have hBD : B Dl = none := fresh_back r1.bh hD
    refine ⟨fun i m H' => m = l.length - i ∧ i ≤ l.length ∧ ∃ F' T' s us ys0 rest, RepS K B F' H' σ (J s) T' ∧ Gr B F1 F' ∧ Keep M' T1 T' ∧ F' Dl = none ∧ H' Dl = some (.lst us) ∧ (∀ (j : Nat) (o : OD), (J s)[j]? = some (Slot.own o) → Dl ∉ (T' j).fp) ∧ RepL K F' (ys0.map ψ) us ∧ ys0.length ≤ i ∧ lcG f (l.drop i) s = some (rest, s1) ∧ ys = ys0 ++ rest,
      ⟨l.length, by simp, Nat.zero_le _, F1, T1, s0, [], [], ys, r1.up (Up.heap r1.fh hD), .refl, .refl, fresh_back r1.fh hD, upd_same, fun j o e hb => nin_new r1 hD j o Dl e (List.mem_singleton.mpr rfl) hb, (show RepL K F1 (([] : List β).map ψ) [] from rfl), Nat.le_refl _, hf, rfl⟩, ?_⟩
    rintro i m H' ⟨rfl, hi, F', T', s, us, ys0, rest, r', g', k', hF', hH', hn', hr', hy0, hg', rfl⟩
    obtain ⟨w1, w2, w3⟩ := W B F' H' _ _ T' (r'.wipe vs) (hw T1 T' s k') g'.f
    rw [List.length_map] at w1 w2
    by_cases hlt : i < l.length
    · have hdrop : l.drop i = l[i] :: l.drop (i + 1) := List.drop_eq_getElem_cons hlt
      rw [hdrop, lcG] at hg'
      obtain ⟨p, hp, hp2⟩ := Option.bind_eq_some_iff.mp hg'
      obtain ⟨r2, hr2, hr3⟩ := Option.map_eq_some_iff.mp hp2
      have hmem : l[i] ∈ l := List.getElem_mem hlt
      obtain ⟨e', hgd, b, e2, het, hf1, hf2⟩ := hs l[i] hmem s p hp
      refine .inr ⟨w1 i hlt, fun H'' => ∃ F' T' s us ys1 rest1, RepS K B F' H'' σ (J s) T' ∧ Gr B F1 F' ∧ Keep M' T1 T' ∧ F' Dl = none ∧ H'' Dl = some (.lst us) ∧ (∀ (j : Nat) (o : OD), (J s)[j]? = some (Slot.own o) → Dl ∉ (T' j).fp) ∧ RepL K F' (ys1.map ψ) us ∧ ys1.length ≤ i + 1 ∧ lcG f (l.drop (i + 1)) s = some (rest1, s1) ∧ ys0 ++ rest = ys1 ++ rest1, fun H2 z => ⟨l.length - (i + 1), by omega, rfl, hlt, z⟩, fun x H2 y => ?_⟩
      obtain ⟨F2, u2, rx⟩ := w3 i (φ l[i]) x H2 (by rw [List.getElem?_map, List.getElem?_eq_getElem hlt]; rfl) y
      have r2' := r'.up u2
      have g2 : Gr B F1 F2 := g'.trans (.of_up r'.bh u2)
      have hF2 : F2 Dl = none := u2.no Dl hF' (by rw [hH']; simp)
      have hH2 : H2 Dl = some (.lst us) := u2.h _ _ hH'
      obtain ⟨B', b1, b2, rb, b4, b5⟩ := r2'.base
      have hB'D : B' Dl = some (.lst us) := b5 Dl _ hH2 hn'
      have er : (Option.toList p.1 ++ r2.1, r2.2) = (rest, s1) := hr3
      have er1 : rest = Option.toList p.1 ++ r2.1 := (congrArg Prod.fst er).symm
      have er2 : r2.2 = s1 := congrArg Prod.snd er
      have hr2' : lcG f (l.drop (i + 1)) p.2 = some (r2.1, s1) := by rw [hr2, ← er2]
      refine hgd.run B' F2 H2 _ T' x (rb.wipe vs) rx _ fun σ3 r3 hl3' hk3 => ⟨?_, ?_⟩
      · have hl3 : σ3.length = σ.length := by rw [hl3', wipe_length]
        exact wipe_eq hl3 fun k hk => (hk3 k hk).trans (wipe_get hk)
      have hk3' : ∀ k, k ∉ vs → σ3[k]? = σ[k]? := fun k hk => (hk3 k hk).trans (wipe_get hk)
      refine het B' F2 H2 σ3 T' r3 _ fun F4 H4 T4 r4 g4 k4 => ?_
      cases b with
      | true =>
        obtain ⟨z, e3, hez, hpz, hout⟩ := hf2 rfl
        refine iteT (hez B' F4 H4 σ3 T4 r4 _ fun y F5 H5 T5 r5 g5 k5 ry => ?_)
        have gg := g4.trans g5
        have ro := rb.out (env' := J p.2) r5 gg hk3' (fun j d hd => hv p.2 s j d hd) hout (hlen _ _)
        have hH5 : H5 Dl = some (.lst us) := r5.bh _ _ hB'D
        have hF5 : F5 Dl = none := gg.no Dl hF2 (by rw [hB'D]; simp)
        have hn5 : ∀ (j : Nat) (o : OD), (J p.2)[j]? = some (Slot.own o) → Dl ∉ (T5 j).fp := fun j o e ha => by
          have := ((ro.own j o e).2.2.2 Dl ha).1
          rw [hB'D] at this; cases this
        obtain ⟨yy, hy1, hy2⟩ : ∃ yy, p.1 = some yy ∧ ψ yy = z := by
          cases hp1 : p.1 with
          | none => rw [hp1] at hpz; cases hpz
          | some yy => rw [hp1] at hpz; exact ⟨yy, rfl, Option.some.inj hpz⟩
        refine ⟨us, hH5, sz_lt (by have := hr'.len; rw [List.length_map] at this; omega), F5, T5, p.2, us ++ [y], ys0 ++ [yy], r2.1, (ro.subB b1).chg hBD hF5 hn5, g2.trans (b4 _ gg), k'.trans (k4.trans k5), hF5, upd_same, hn5, ?_, by rw [List.length_append]; exact Nat.succ_le_succ hy0, hr2', ?_⟩
        · rw [List.map_append]
          exact ((hr'.mono u2.f).mono gg.f).snoc (hy2 ▸ ry)
        · rw [er1, hy1]; simp
      | false =>
        obtain ⟨hpz, hout⟩ := hf1 rfl
        have ro := rb.out (env' := J p.2) r4 g4 hk3' (fun j d hd => hv p.2 s j d hd) hout (hlen _ _)
        have hn4 : ∀ (j : Nat) (o : OD), (J p.2)[j]? = some (Slot.own o) → Dl ∉ (T4 j).fp := fun j o e ha => by
          have := ((ro.own j o e).2.2.2 Dl ha).1
          rw [hB'D] at this; cases this
        have hp1 : p.1 = none := by
          cases hp1 : p.1 with
          | none => rfl
          | some yy => rw [hp1] at hpz; cases hpz
        refine iteF ⟨F4, T4, p.2, us, ys0, r2.1, ro.subB b1, g2.trans (b4 _ g4), k'.trans k4, g4.no Dl hF2 (by rw [hB'D]; simp), r4.bh _ _ hB'D, hn4, (hr'.mono u2.f).mono g4.f, Nat.le_succ_of_le hy0, hr2', ?_⟩
        rw [er1, hp1]; rfl
    · have hi' : i = l.length := by omega
      subst hi'
      rw [List.drop_length, lcG] at hg'
      have e1 := Option.some.inj hg'
      have e2 : rest = [] := (congrArg Prod.fst e1).symm
      have e3 : s = s1 := congrArg Prod.snd e1
      subst e2 e3
      refine .inl ⟨w2, q (.node Dl (leaves us)) F' H' T' r' (g1.trans g') (k1.trans (k'.sub hM)) ⟨Dl, leaves us, rfl, by rw [map_leaves]; exact hH', repAs_leaves (by rw [List.append_nil]; exact hr')⟩ (by rw [fp_leaves]; simp) (fun a ha => ?_) fun j u a e ha => ?_⟩
      · rw [fp_leaves] at ha
        rw [List.mem_singleton.mp ha]; exact ⟨hBD, hF'⟩
      · rw [fp_leaves] at ha
        rw [List.mem_singleton.mp ha]; exact hn' j u e
def lcP {α β : Type} (c : α → Option Bool) (v : α → Option β) : List α → Option (List β)
  | [] => some []
  | x :: xs => (c x).bind fun b => if b then (v x).bind fun y => (lcP c v xs).map (y :: ·) else lcP c v xs
def lcM {α β : Type} (c : α → Option Bool) (v : α → Option β) (l : List α) : Option (List β) := if l.length ≤ 90000 then lcP c v l else none
def lcF {α β : Type} (c : α → Option Bool) (v : α → Option β) : α → Unit → Option (Option β × Unit) := fun a _ => (c a).bind fun b => if b then (v a).map fun y => (some y, ()) else some (none, ())
theorem lcP_G {α β : Type} {c : α → Option Bool} {v : α → Option β} : ∀ (l : List α) (ys : List β), lcP c v l = some ys → lcG (lcF c v) l () = some (ys, ())
  | [], ys, h => by rw [lcP] at h; rw [lcG, Option.some.inj h]
  | x :: xs, ys, h => by
    rw [lcP] at h
    obtain ⟨b, hb, h⟩ := Option.bind_eq_some_iff.mp h
    rw [lcG, lcF, hb, Option.bind_some]
    cases b with
    | true =>
      rw [if_pos rfl] at h ⊢
      obtain ⟨y, hy, h⟩ := Option.bind_eq_some_iff.mp h
      obtain ⟨zs, hz, h⟩ := Option.map_eq_some_iff.mp h
      rw [hy, Option.map_some, Option.bind_some, lcP_G xs zs hz, Option.map_some, ← h]
      rfl
    | false =>
      rw [if_neg Bool.false_ne_true] at h ⊢
      rw [Option.bind_some, lcP_G xs ys h, Option.map_some]
      rfl
/-- no slot of vs is one's own -/
def freeB (vs : List Nat) (e : List Slot) : Bool := vs.all fun v => match e[v]? with
  | some (.own _) => false
  | _ => true
theorem freeB_out {vs : List Nat} {e e' : List Slot} (h : freeB vs e = true) (k : ∀ k, k ∉ vs → e'[k]? = (wipeE e vs)[k]?) : Out vs e' e := fun i u hu => by
  have hi : i ∉ vs := fun hv => by
    have := List.all_eq_true.mp h i hv
    rw [hu] at this
    cases this
  refine ⟨hi, ?_⟩
  rw [k i hi]
  clear k h
  induction vs with
  | nil => exact hu
  | cons v vs ih =>
    show ((wipeE e vs).set v .no)[i]? = _
    rw [List.getElem?_set_ne (fun z => hi (by simp [z]))]
    exact ih fun z => hi (List.mem_cons_of_mem _ z)
/-- a turn that changes nothing -/
structure Turn1 (K : PySem.W.Frag) (g : TG) (tt : TT) (te : TE) (vs : List Nat) (d : D) (e : List Slot) (c : Option Bool) (v : Option D) : Prop where
  ex : ∃ e', GD K g vs d (wipeE e vs) e' ∧ (∀ b, c = some b → EvT K [] tt e' b e') ∧ ∀ y, c = some true → v = some y → Ev K [] te e' y e'
theorem ew_lcM {α β : Type} {wi : TI} {g : TG} {tt : TT} {te : TE} {vs : List Nat} {env env1 : List Slot} {Wp : (Nat → AD) → List Slot → (Nat → AD) → Prop} {l : List α} {φ : α → D} {ψ : β → D}
    {c : α → Option Bool} {v : α → Option β} {ys : List β} (h : It K M wi env (l.map φ) env1 Wp) (hf : lcM c v l = some ys) (hw : ∀ T0, Wp T0 (wipeE env1 vs) T0) (hb : freeB vs env1 = true)
    (hs : ∀ a, a ∈ l → Turn1 K g tt te vs (φ a) env1 (c a) ((v a).map ψ)) : EvW K M (tLc wi g tt te vs) env (.lst ((ys.map ψ).map .val)) env1 := by
  unfold lcM at hf
  by_cases hl : l.length ≤ 90000
  case neg => rw [if_neg hl] at hf; cases hf
  rw [if_pos hl] at hf
  refine ew_lcS (σt := Unit) (J := fun _ => env1) (f := lcF c v) (s0 := ()) (s1 := ()) (M' := []) h ?_ (by simp) rfl ?_ (fun _ _ _ _ z => z) (fun _ _ => rfl) ?_
  · unfold lcS
    rw [if_pos hl]; exact lcP_G l ys hf
  · intro T0 T s k
    rw [k.all]; exact hw T0
  · intro a ha s p hp
    obtain ⟨e', hg, h1, h2⟩ := (hs a ha).ex
    unfold lcF at hp
    obtain ⟨b, hb1, hp⟩ := Option.bind_eq_some_iff.mp hp
    have ho := freeB_out hb hg.out
    refine ⟨e', hg, b, e', h1 b hb1, fun hbf => ?_, fun hbt => ?_⟩
    · subst hbf
      rw [if_neg Bool.false_ne_true] at hp
      rw [← Option.some.inj hp]
      exact ⟨rfl, ho⟩
    · subst hbt
      rw [if_pos rfl] at hp
      obtain ⟨y, hy, hp⟩ := Option.map_eq_some_iff.mp hp
      rw [← hp]
      exact ⟨ψ y, e', h2 (ψ y) hb1 (by rw [hy]; rfl), rfl, ho⟩
end Dm

set_option Elab.async false
set_option linter.all false
set_option maxRecDepth 100000
set_option maxHeartbeats 4000000
set_option autoImplicit false
/-! Dp: places within one's own things: read, changed. -/
namespace Dm
open PySem L2 Evl StX PyProof.Rows
variable {K : PySem.W.Frag} {M : List Nat}
def OD.kids : OD → List OD
  | .val _ => []
  | .lst os => os
  | .dic _ os => os
  | .dit _ os => os
  | .obj _ _ os => os
def OD.setKids : OD → List OD → OD
  | .val d, _ => .val d
  | .lst _, os => .lst os
  | .dic ks _, os => .dic ks os
  | .dit ks _, os => .dit ks os
  | .obj C ns _, os => .obj C ns os
def AD.kids : AD → List AD
  | .leaf _ => []
  | .node _ cs => cs
def AD.setKids : AD → List AD → AD
  | .leaf v, _ => .leaf v
  | .node a _, cs => .node a cs
def OD.at (o : OD) : List Nat → Option OD
  | [] => some o
  | j :: π => match o.kids[j]? with
    | some c => c.at π
    | none => none
def OD.put (o : OD) : List Nat → OD → OD
  | [], u => u
  | j :: π, u => match o.kids[j]? with
    | some c => o.setKids (o.kids.set j (c.put π u))
    | none => o
def AD.at (t : AD) : List Nat → Option AD
  | [] => some t
  | j :: π => match t.kids[j]? with
    | some c => c.at π
    | none => none
def AD.put (t : AD) : List Nat → AD → AD
  | [], u => u
  | j :: π, u => match t.kids[j]? with
    | some c => t.setKids (t.kids.set j (c.put π u))
    | none => t
theorem RepA.kids {F H : Hp} : ∀ {o : OD} {t : AD}, RepA K F H o t → o.kids ≠ [] → ∃ a cs, t = .node a cs ∧ RepAs K F H o.kids cs ∧
    ∀ F' H' os' cs', cs'.map AD.v = cs.map AD.v → H' a = H a → RepAs K F' H' os' cs' → RepA K F' H' (o.setKids os') (.node a cs')
  | .val d, _, _, h => absurd rfl h
  | .lst os, _, ⟨a, cs, e, h1, h2⟩, _ => ⟨a, cs, e, h2, fun F' H' os' cs' e1 e2 h => ⟨a, cs', rfl, by rw [e2, h1, e1], h⟩⟩
  | .dic ks os, _, ⟨a, cs, e, h1, h3, h2⟩, _ => ⟨a, cs, e, h2, fun F' H' os' cs' e1 e2 h => ⟨a, cs', rfl, by rw [e2, h1, e1], by
    have := congrArg List.length e1; simp at this; omega, h⟩⟩
  | .dit ks os, _, ⟨a, cs, e, h1, h3, h2⟩, _ => ⟨a, cs, e, h2, fun F' H' os' cs' e1 e2 h => ⟨a, cs', rfl, by rw [e2, h1, e1], by
    have := congrArg List.length e1; simp at this; omega, h⟩⟩
  | .obj C ns os, _, ⟨a, dx, cs, e, h1, h3, h2⟩, _ => ⟨a, cs, e, h2, fun F' H' os' cs' e1 e2 h => ⟨a, dx, cs', rfl, by rw [e2, h1, e1], by
    have := congrArg List.length e1; simp at this; omega, h⟩⟩
theorem RepAs.set {F H F' H' : Hp} (e : Ex F F') : ∀ {os : List OD} {cs : List AD} (j : Nat) {c : AD} {o' : OD} {c' : AD}, RepAs K F H os cs → cs[j]? = some c → RepA K F' H' o' c' → (∀ (k : Nat) (x : AD), k ≠ j → cs[k]? = some x → ∀ a ∈ x.fp, ∀ y, H a = some y → H' a = some y) →
    RepAs K F' H' (os.set j o') (cs.set j c')
  | [], _, j, _, _, _, h, hc, _, _ => by rw [show _ = [] from h] at hc; simp at hc
  | o :: os, _, 0, c, o', c', ⟨d, cs, rfl, h1, h2⟩, hc, hn, hk => ⟨c', cs, rfl, hn, by
    refine RepAs.mono e os cs (fun a ha y hy => ?_) h2
    have : ∃ (k : Nat) (x : AD), cs[k]? = some x ∧ a ∈ x.fp := by
      clear hk h2 h1 hc hn
      induction cs with
      | nil => simp [AD.fps] at ha
      | cons z zs ih =>
        rcases List.mem_append.mp ha with ha | ha
        · exact ⟨0, z, rfl, ha⟩
        · obtain ⟨k, x, h1, h2⟩ := ih ha
          exact ⟨k + 1, x, by simpa using h1, h2⟩
    obtain ⟨k, x, h1, h2⟩ := this
    exact hk (k + 1) x (by omega) (by simpa using h1) a h2 y hy⟩
  | o :: os, _, j + 1, c, o', c', ⟨d, cs, rfl, h1, h2⟩, hc, hn, hk => ⟨d, cs.set j c', rfl, RepA.mono e o d (fun a ha y hy => hk 0 d (by omega) rfl a ha y hy) h1, RepAs.set e j h2 (by simpa using hc) hn fun k x hkj hx => hk (k + 1) x (by omega) (by simpa using hx)⟩
theorem fps_set : ∀ {cs : List AD} (j : Nat) {c : AD}, cs[j]? = some c → ∃ rest, (AD.fps cs).Perm (c.fp ++ rest) ∧ (∀ c' : AD, (AD.fps (cs.set j c')).Perm (c'.fp ++ rest)) ∧ ∀ (k : Nat) (x : AD), k ≠ j → cs[k]? = some x → ∀ a ∈ x.fp, a ∈ rest
  | [], j, _, h => by simp at h
  | d :: cs, 0, c, h => by
    have h : d = c := by simpa using h
    subst h
    exact ⟨AD.fps cs, .refl _, fun c' => .refl _, fun k x hk hx a ha => by
      cases k with
      | zero => exact absurd rfl hk
      | succ k => exact fps_mem ha (i := k) (by simpa using hx)⟩
  | d :: cs, j + 1, c, h => by
    obtain ⟨rest, h1, h2, h3⟩ := fps_set (cs := cs) j (by simpa using h)
    have sw : ∀ (x y z : List Addr), (x ++ (y ++ z)).Perm (y ++ (x ++ z)) := fun x y z => by
      rw [← List.append_assoc, ← List.append_assoc]
      exact List.perm_append_comm.append_right z
    refine ⟨d.fp ++ rest, (h1.append_left d.fp).trans (sw _ _ _), fun c' => ((h2 c').append_left d.fp).trans (sw _ _ _), fun k x hk hx a ha => ?_⟩
    cases k with
    | zero =>
      have hx : d = x := by simpa using hx
      subst hx
      exact List.mem_append_left _ ha
    | succ k => exact List.mem_append_right _ (h3 k x (by omega) (by simpa using hx) a ha)
theorem set_v {cs : List AD} {j : Nat} {c c' : AD} (h : cs[j]? = some c) (e : c'.v = c.v) : (cs.set j c').map AD.v = cs.map AD.v := by
  rw [List.map_set, e]
  apply List.ext_getElem?
  intro k
  by_cases hk : j = k
  · subst hk
    have hl := (List.getElem?_eq_some_iff.mp h).1
    rw [List.getElem?_set_self (by simpa using hl), List.getElem?_map, h]; rfl
  · rw [List.getElem?_set_ne hk]
/-- a place in a tree, and what comes of changing what stands there -/
theorem RepA.place {F H : Hp} : ∀ (π : List Nat) (o : OD) (t : AD) (u : OD), RepA K F H o t → o.at π = some u → ∃ s rest, t.at π = some s ∧ RepA K F H u s ∧ t.fp.Perm (s.fp ++ rest) ∧
    ∀ F' H' u' s', s'.v = s.v → Ex F F' → (∀ a ∈ rest, a ∉ s.fp → ∀ x, H a = some x → H' a = some x) → t.fp.Nodup → RepA K F' H' u' s' → RepA K F' H' (o.put π u') (t.put π s') ∧ (t.put π s').fp.Perm (s'.fp ++ rest) ∧ (t.put π s').v = t.v
  | [], o, t, u, h, e => by
    have e : o = u := Option.some.inj e
    subst e
    exact ⟨t, [], rfl, h, by rw [List.append_nil], fun F' H' u' s' hv _ _ _ hr => ⟨hr, by rw [List.append_nil]; exact .refl _, hv⟩⟩
  | j :: π, o, t, u, h, e => by
    unfold OD.at at e
    cases hc : o.kids[j]? with
    | none => rw [hc] at e; cases e
    | some c =>
      rw [hc] at e
      obtain ⟨a, cs, rfl, hcs, back⟩ := h.kids (fun z => by rw [z] at hc; simp at hc)
      obtain ⟨d, hd, rd⟩ := hcs.get hc
      obtain ⟨s, rest, h1, h2, h3, h4⟩ := RepA.place π c d u rd e
      obtain ⟨rest2, p1, p2, p3⟩ := fps_set j hd
      refine ⟨s, a :: (rest ++ rest2), ?_, h2, ?_, fun F' H' u' s' hv ex hk nd hr => ?_⟩
      · show (match cs[j]? with | some c => c.at π | none => none) = _
        rw [hd]; exact h1
      · show (a :: AD.fps cs).Perm _
        refine .trans (.cons a (p1.trans ?_)) (List.perm_middle.symm)
        rw [← List.append_assoc]
        exact h3.append_right _
      · have ndc : (a :: (d.fp ++ rest2)).Nodup := (List.Perm.cons a p1).nodup_iff.mp nd
        have nda : a ∉ d.fp ++ rest2 := (List.nodup_cons.mp ndc).1
        have ndd : (d.fp ++ rest2).Nodup := (List.nodup_cons.mp ndc).2
        have hs_d : ∀ b ∈ s.fp, b ∈ d.fp := fun b hb => h3.mem_iff.mpr (List.mem_append_left _ hb)
        have hr_d : ∀ b ∈ rest, b ∈ d.fp := fun b hb => h3.mem_iff.mpr (List.mem_append_right _ hb)
        have disj := (List.nodup_append.mp ndd).2.2
        obtain ⟨q1, q2, q3⟩ := h4 F' H' u' s' hv ex (fun b hb hs x hx => hk b (List.mem_cons_of_mem _ (List.mem_append_left _ hb)) hs x hx) (List.nodup_append.mp ndd).1 hr
        have hput : (AD.node a cs).put (j :: π) s' = .node a (cs.set j (d.put π s')) := by
          show (match cs[j]? with | some c => _ | none => _) = _
          rw [hd]; rfl
        have hputo : o.put (j :: π) u' = o.setKids (o.kids.set j (c.put π u')) := by
          show (match o.kids[j]? with | some c => _ | none => _) = _
          rw [hc]
        obtain ⟨xa, hxa⟩ := RepA.live o _ h a List.mem_cons_self
        have hHa : H' a = H a := by
          rw [hxa]
          exact hk a List.mem_cons_self (fun z => nda (List.mem_append_left _ (hs_d a z))) xa hxa
        rw [hput, hputo]
        refine ⟨back F' H' _ _ (set_v hd q3) hHa (RepAs.set ex j hcs hd q1 fun k x hkj hx b hb y hy => ?_), ?_, rfl⟩
        · have hb2 := p3 k x hkj hx b hb
          exact hk b (List.mem_cons_of_mem _ (List.mem_append_right _ hb2)) (fun z => disj b (hs_d b z) b hb2 rfl) y hy
        · show (a :: AD.fps (cs.set j (d.put π s'))).Perm _
          refine .trans (.cons a ((p2 _).trans ?_)) (List.perm_middle.symm)
          rw [← List.append_assoc]
          exact q2.append_right _
/-- what stands at a place of slot i is changed -/
theorem RepS.mut {B F H : Hp} {σ : L2.St} {env : List Slot} {T : Nat → AD} (r : RepS K B F H σ env T) {i : Nat} {o u : OD} {π : List Nat} (hi : env[i]? = some (.own o)) (ho : o.at π = some u) :
    ∃ s, (T i).at π = some s ∧ RepA K F H u s ∧ s.fp.Nodup ∧ (∀ a ∈ s.fp, B a = none ∧ F a = none) ∧
    ∀ F' H' u' s', s'.v = s.v → Ex F F' → Ex F' H' → (∀ a x, a ∉ s.fp → H a = some x → H' a = some x) → (∀ p, F p = none → H p ≠ none → p ∉ s.fp → F' p = none) → RepA K F' H' u' s' → s'.fp.Nodup →
      (∀ a ∈ s'.fp, F' a = none ∧ (a ∈ s.fp ∨ (B a = none ∧ ∀ (j : Nat) (w : OD), env[j]? = some (Slot.own w) → a ∉ (T j).fp))) → RepS K B F' H' σ (env.set i (.own (o.put π u'))) (upT T i ((T i).put π s')) ∧ ((T i).put π s').v = (T i).v ∧ (∀ p, F p = none → B p ≠ none → F' p = none) := by
  obtain ⟨hv, hr, nd, hn⟩ := r.own i o hi
  obtain ⟨s, rest, h1, h2, h3, h4⟩ := RepA.place π o (T i) u hr ho
  have nds : (s.fp ++ rest).Nodup := h3.nodup_iff.mp nd
  have ndss := (List.nodup_append.mp nds).1
  have disj := (List.nodup_append.mp nds).2.2
  have sub : ∀ a ∈ s.fp, a ∈ (T i).fp := fun a ha => h3.mem_iff.mpr (List.mem_append_left _ ha)
  have subr : ∀ a ∈ rest, a ∈ (T i).fp := fun a ha => h3.mem_iff.mpr (List.mem_append_right _ ha)
  refine ⟨s, h1, h2, ndss, fun a ha => hn a (sub a ha), fun F' H' u' s' hv' ex fh keep no ra nd' hf => ?_⟩
  obtain ⟨q1, q2, q3⟩ := h4 F' H' u' s' hv' ex (fun a ha hs x hx => keep a x hs hx) nd ra
  have liveN : ∀ a, (∃ (j : Nat) (w : OD), env[j]? = some (Slot.own w) ∧ a ∈ (T j).fp) → ∀ b ∈ s'.fp, a = b → a ∈ s.fp := fun a ⟨j, w, e1, e2⟩ b hb e => by
    rcases (hf b hb).2 with z | z
    · rw [e]; exact z
    · exact absurd (e ▸ e2) (z.2 j w e1)
  have bok : ∀ a ∈ s'.fp, B a = none := fun a ha => by
    rcases (hf a ha).2 with z | z
    · exact (hn a (sub a z)).1
    · exact z.1
  have hgr : ∀ p, F p = none → B p ≠ none → F' p = none := fun p h1 h2 => by
    cases hb : B p with
    | none => exact absurd hb h2
    | some x => exact no p h1 (by rw [r.bh p x hb]; simp) fun z => by rw [(hn p (sub p z)).1] at hb; cases hb
  refine ⟨?_, q3, hgr⟩
  refine RepS.mk ?_ fh ?_ ?_ ?_ (by rw [List.length_set]; exact r.len)
  · intro a x hx
    exact keep a x (fun z => by rw [(hn a (sub a z)).1] at hx; cases hx) (r.bh a x hx)
  · intro j d e
    rcases set_get e with ⟨rfl, z, _⟩ | ⟨hj, e'⟩
    · cases z
    · obtain ⟨v, k1, k2⟩ := r.val j d e'
      exact ⟨v, k1, k2.mono ex⟩
  · intro j w e
    rcases set_get e with ⟨rfl, z, _⟩ | ⟨hj, e'⟩
    · cases z
      rw [upT_same]
      refine ⟨by rw [q3]; exact hv, q1, q2.nodup_iff.mpr (List.nodup_append.mpr ⟨nd', (List.nodup_append.mp nds).2.1, fun a ha b hb e => ?_⟩), fun a ha => ?_⟩
      · subst e
        exact disj a (liveN a ⟨i, o, hi, subr a hb⟩ a ha rfl) a hb rfl
      · rcases List.mem_append.mp (q2.mem_iff.mp ha) with z | z
        · exact ⟨bok a z, (hf a z).1⟩
        · obtain ⟨x, hx⟩ := RepA.live o _ hr a (subr a z)
          exact ⟨(hn a (subr a z)).1, no a (hn a (subr a z)).2 (by rw [hx]; simp) fun y => disj a y a z rfl⟩
    · rw [upT_ne (Ne.symm hj)]
      obtain ⟨k1, k2, k3, k4⟩ := r.own j w e'
      have nin : ∀ a ∈ (T j).fp, a ∉ s.fp := fun a ha z => hj (r.sep i j o w a hi e' (sub a z) ha)
      refine ⟨k1, RepA.mono ex w _ (fun a ha x hx => keep a x (nin a ha) hx) k2, k3, fun a ha => ⟨(k4 a ha).1, ?_⟩⟩
      obtain ⟨x, hx⟩ := RepA.live w _ k2 a ha
      exact no a (k4 a ha).2 (by rw [hx]; simp) (nin a ha)
  · have cross : ∀ (j : Nat) (w : OD) (a : Addr), env[j]? = some (Slot.own w) → i ≠ j → a ∈ ((T i).put π s').fp → a ∉ (T j).fp := fun j w a e hij ha hb => by
      rcases List.mem_append.mp (q2.mem_iff.mp ha) with z | z
      · exact hij (r.sep i j o w a hi e (sub a (liveN a ⟨j, w, e, hb⟩ a z rfl)) hb)
      · exact hij (r.sep i j o w a hi e (subr a z) hb)
    intro j k w w' a e1 e2
    rcases set_get e1 with ⟨rfl, _, _⟩ | ⟨hj, e1'⟩
    · rcases set_get e2 with ⟨rfl, _, _⟩ | ⟨hk, e2'⟩
      · intro _ _; rfl
      · rw [upT_same, upT_ne (Ne.symm hk)]
        exact fun h1 h2 => absurd h2 (cross k w' a e2' hk h1)
    · rcases set_get e2 with ⟨rfl, _, _⟩ | ⟨hk, e2'⟩
      · rw [upT_same, upT_ne (Ne.symm hj)]
        exact fun h1 h2 => absurd h1 (cross j w a e1' hj h2)
      · rw [upT_ne (Ne.symm hj), upT_ne (Ne.symm hk)]
        exact r.sep j k w w' a e1' e2'
end Dm

set_option Elab.async false
set_option linter.all false
set_option maxRecDepth 100000
set_option maxHeartbeats 4000000
set_option autoImplicit false
/-! Dk: what is read and written at places. -/
namespace Dm
open PySem L2 Evl StX PyProof.Rows
variable {K : PySem.W.Frag} {M : List Nat}
theorem od_at_snoc : ∀ (π : List Nat) (o u : OD) (j : Nat), o.at π = some u → o.at (π ++ [j]) = u.kids[j]?
  | [], o, u, j, h => by
    have h : o = u := Option.some.inj h
    subst h
    show (match o.kids[j]? with | some c => some c | none => none) = _
    cases o.kids[j]? <;> rfl
  | k :: π, o, u, j, h => by
    unfold OD.at at h
    show (match o.kids[k]? with | some c => c.at (π ++ [j]) | none => none) = _
    cases hc : o.kids[k]? with
    | none => rw [hc] at h; cases h
    | some c => rw [hc] at h; exact od_at_snoc π c u j h
theorem ad_at_snoc : ∀ (π : List Nat) (o u : AD) (j : Nat), o.at π = some u → o.at (π ++ [j]) = u.kids[j]?
  | [], o, u, j, h => by
    have h : o = u := Option.some.inj h
    subst h
    show (match o.kids[j]? with | some c => some c | none => none) = _
    cases o.kids[j]? <;> rfl
  | k :: π, o, u, j, h => by
    unfold AD.at at h
    show (match o.kids[k]? with | some c => c.at (π ++ [j]) | none => none) = _
    cases hc : o.kids[k]? with
    | none => rw [hc] at h; cases h
    | some c => rw [hc] at h; exact ad_at_snoc π c u j h
/-- te gives where the place π of slot i stands -/
def Pl (K : PySem.W.Frag) (te : TE) (env : List Slot) (i : Nat) (π : List Nat) : Prop := ∀ B F H σ T, RepS K B F H σ env T → ∀ Q : VK, (∀ s F' H', RepS K B F' H' σ env T → Gr B F F' → (T i).at π = some s → Q s.v H') → te σ H Q
/-- what stands at a place, in the heap -/
theorem RepS.here {B F H : Hp} {σ : L2.St} {env : List Slot} {T : Nat → AD} (r : RepS K B F H σ env T) {i : Nat} {o u : OD} {π : List Nat} (hi : env[i]? = some (.own o)) (ho : o.at π = some u) {s : AD} (hs : (T i).at π = some s) : RepA K F H u s := by
  obtain ⟨s', h1, h2, _⟩ := r.mut hi ho
  rw [hs] at h1; cases h1; exact h2
section
variable {env env1 env2 : List Slot} {te ta tb tk tx : TE} {i : Nat} {o u : OD} {π : List Nat} {d b c : D}
/-- at which place the first such stands -/
def ixOf {κ : Type} [DecidableEq κ] (k : κ) : List κ → Nat
  | [] => 0
  | n :: r => if n = k then 0 else ixOf k r + 1
theorem pl_var (h : env[i]? = some (.own o)) : Pl K (tVar i) env i [] := fun B F H σ T r Q q => ⟨_, (r.own i o h).1, q (T i) F H r .refl rfl⟩
theorem lk_idx {f : Str} : ∀ {ns : List Str} {vs : List V} {j : Nat}, ixOf f ns = j → j < ns.length → (ns.zip vs).lookup f = vs[j]?
  | [], vs, j, h, hl => by simp at hl
  | n :: ns, [], j, h, hl => by simp
  | n :: ns, v :: vs, j, h, hl => by
    rw [List.zip_cons_cons, List.lookup_cons]
    unfold ixOf at h
    by_cases e : n = f
    · subst e
      have hj : j = 0 := by simpa using h.symm
      subst hj; simp
    · have e2 : (f == n) = false := by rw [beq_eq_false_iff_ne]; exact fun z => e z.symm
      rw [if_neg e] at h
      subst h
      rw [e2]
      have := lk_idx (f := f) (ns := ns) (vs := vs) rfl (by simpa using hl)
      simpa using this
theorem pl_fld {C : Addr} {ns : List Str} {os : List OD} {f : Str} {j : Nat} (hp : Pl K te env i π) (hi : env[i]? = some (.own o)) (ho : o.at π = some (.obj C ns os)) (hj : ixOf f ns = j) (hl : j < ns.length) (c : Cls K C) (hn : NoAttr K C f) : Pl K (tFld K te f) env i (π ++ [j]) := fun B F H σ T r Q q =>
  hp B F H σ T r _ fun s F1 H1 r1 g1 hs => by
    obtain ⟨a, dx, cs, rfl, h1, h2, h3⟩ := r1.here hi ho hs
    have hlc : j < cs.length := by omega
    refine ⟨a, C, dx, _, (cs[j]).v, rfl, h1, c, hn, ?_, q (cs[j]) F1 H1 r1 g1 ?_⟩
    · rw [lk_idx hj hl, List.getElem?_map, List.getElem?_eq_getElem hlc]; rfl
    · rw [ad_at_snoc π _ _ j hs]; exact List.getElem?_eq_getElem hlc
theorem ev_leaf (hp : Pl K te env i π) (hi : env[i]? = some (.own o)) (ho : o.at π = some (.val d)) : Ev K M te env d env := fun B F H σ T r Q q =>
  hp B F H σ T r _ fun s F1 H1 r1 g1 hs => by
    obtain ⟨v, rfl, hv⟩ := r1.here hi ho hs
    exact q v F1 H1 T r1 g1 .refl hv
/-- an argument that changes nothing -/
theorem Ev.pure {B F H : Hp} {σ : L2.St} {T : Nat → AD} (h : Ev K [] te env d env) (r : RepS K B F H σ env T) {Q : VK} (q : ∀ v F' H', RepS K B F' H' σ env T → Gr B F F' → Rep K F' d v → Q v H') : te σ H Q := by
  obtain ⟨B', b1, b2, rb, b4, b5⟩ := r.base
  exact h B F H σ T r Q fun v F1 H1 T1 r1 g1 k1 rv => q v F1 H1 (k1.all ▸ r1) g1 rv
/-- as it stands, frozen for a while -/
theorem RepS.peek {B F H : Hp} {σ : L2.St} {env : List Slot} {T : Nat → AD} (r : RepS K B F H σ env T) {i : Nat} {o u : OD} {π : List Nat} (hi : env[i]? = some (.own o)) (ho : o.at π = some u) {s : AD} (hs : (T i).at π = some s) :
    ∃ F1, Ex F F1 ∧ Ex F1 H ∧ Rep K F1 u.fz s.v := by
  classical
  obtain ⟨s', h1, h2, h3, h4, _⟩ := r.mut hi ho
  rw [hs] at h1; cases h1
  have e1 : Ex F (fun a => if a ∈ s.fp then H a else F a) := fun a x e => by
    show (if a ∈ s.fp then H a else F a) = _
    by_cases ha : a ∈ s.fp
    · rw [(h4 a ha).2] at e; cases e
    · rw [if_neg ha]; exact e
  refine ⟨fun a => if a ∈ s.fp then H a else F a, e1, fun a x e => ?_, RepA.fz e1 u s (fun a ha x hx => ?_) h2⟩
  · have e : (if a ∈ s.fp then H a else F a) = some x := e
    by_cases ha : a ∈ s.fp
    · rw [if_pos ha] at e; exact e
    · rw [if_neg ha] at e; exact r.fh a x e
  · show (if a ∈ s.fp then H a else F a) = _
    rw [if_pos ha]; exact hx
def D.flat : D → Bool
  | .non => true | .bl _ => true | .int _ => true | .str _ => true | .ty _ => true | .adr _ => true | _ => false
theorem flat_rep {F F' : Hp} {v : V} : ∀ {c : D}, c.flat = true → Rep K F c v → Rep K F' c v
  | .non, _, h => h
  | .bl _, _, h => h
  | .int _, _, h => h
  | .str _, _, h => h
  | .ty _, _, h => h
  | .adr _, _, h => h
theorem RepS.grow {B F H H' : Hp} {σ : L2.St} {env : List Slot} {T : Nat → AD} (r : RepS K B F H σ env T) (e : Ex H H') : RepS K B F H' σ env T := r.up ⟨e, .refl _, r.fh.trans e, fun _ h _ => h⟩
theorem ev_peekCB {r : List V → Hp → VK → Prop} (hp : Pl K te env i π) (hi : env[i]? = some (.own o)) (ho : o.at π = some u) (hr : RAD K r [u.fz] c) (hc : c.flat = true) : Ev K M (tCB r (tCons te tNil)) env c env := fun B F H σ T s Q q =>
  hp B F H σ T s _ fun t F1 H1 r1 g1 ht => by
    obtain ⟨F2, e1, e2, rp⟩ := r1.peek hi ho ht
    exact hr F2 H1 [t.v] e2 ⟨_, _, rfl, rp, rfl⟩ Q fun z F3 H3 u3 r3 => q z F1 H3 T (r1.grow u3.h) g1 .refl (flat_rep hc r3)
theorem ev_peekL {r : R2} (hp : Pl K te env i π) (hi : env[i]? = some (.own o)) (ho : o.at π = some u) (hb : Ev K [] tb env b env) (hr : R2D K r u.fz b c) (hc : c.flat = true) : Ev K M (tOp r te tb) env c env := fun B F H σ T s Q q =>
  hp B F H σ T s _ fun t F1 H1 r1 g1 ht => hb.pure r1 fun y F2 H2 r2 g2 ry => by
    obtain ⟨F3, e1, e2, rp⟩ := r2.peek hi ho ht
    exact hr F3 H2 t.v y e2 rp (ry.mono e1) Q fun z F4 H4 u4 r4 => q z F2 H4 T (r2.grow u4.h) (g1.trans g2) .refl (flat_rep hc r4)
theorem ev_peekR {r : R2} (hb : Ev K M tb env b env1) (hp : Pl K te env1 i π) (hi : env1[i]? = some (.own o)) (ho : o.at π = some u) (hr : R2D K r b u.fz c) (hc : c.flat = true) : Ev K M (tOp r tb te) env c env1 := fun B F H σ T s Q q =>
  hb B F H σ T s _ fun y F1 H1 T1 r1 g1 k1 ry => hp B F1 H1 σ T1 r1 _ fun t F2 H2 r2 g2 ht => by
    obtain ⟨F3, e1, e2, rp⟩ := r2.peek hi ho ht
    exact hr F3 H2 y t.v e2 ((ry.mono g2.f).mono e1) rp Q fun z F4 H4 u4 r4 => q z F2 H4 T1 (r2.grow u4.h) (g1.trans g2) k1 (flat_rep hc r4)
/-! elements -/
theorem atI_kids {α : Type} {xs : List α} {n : Nat} {k : Int} {j : Nat} (h : ixN n k = some j) (hn : xs.length = n) : atI xs k = xs[j]? := by
  unfold atI; rw [hn, h]; rfl
theorem pl_ixL {os : List OD} {k : Int} {j : Nat} (hp : Pl K te env i π) (hi : env[i]? = some (.own o)) (ho : o.at π = some (.lst os)) (hk : Ev K [] tk env (.int k) env) (hj : ixN os.length k = some j) (hl : j < os.length) : Pl K (tOp (uIx K) te tk) env i (π ++ [j]) := fun B F H σ T r Q q =>
  hp B F H σ T r _ fun s F1 H1 r1 g1 hs => by
    refine hk.pure r1 fun y F2 H2 r2 g2 ry => ?_
    obtain ⟨a, cs, rfl, h1, h2⟩ := r2.here hi ho hs
    have hlc : j < cs.length := by have := h2.len; omega
    exact .inl (.inl ⟨a, _, k, (cs[j]).v, rfl, ry, sq_of h1, by rw [atI_kids hj (by rw [List.length_map, h2.len]), List.getElem?_map, List.getElem?_eq_getElem hlc]; rfl,
      q (cs[j]) F2 H2 r2 (g1.trans g2) (by rw [ad_at_snoc π _ _ j hs]; exact List.getElem?_eq_getElem hlc)⟩)
theorem valV_idx {κ : Type} [DecidableEq κ] {k : κ} : ∀ {ks : List κ} {vs : List V} {j : Nat}, ixOf k ks = j → j < ks.length → valV (ks.zip vs) k = vs[j]?
  | [], vs, j, h, hl => by simp at hl
  | n :: ks, [], j, h, hl => by simp [valV]
  | n :: ks, v :: vs, j, h, hl => by
    rw [List.zip_cons_cons]
    unfold ixOf at h
    by_cases e : n = k
    · subst e
      have hj : j = 0 := by simpa using h.symm
      subst hj
      rw [valV_pos rfl]; rfl
    · rw [if_neg e] at h
      subst h
      rw [valV_neg e]
      have := valV_idx (k := k) (ks := ks) (vs := vs) rfl (by simpa using hl)
      simpa using this
theorem rep_kD {F : Hp} {v : V} : ∀ {k : Key}, Rep K F (kD k) v → v = kV k
  | .inl _, h => h
  | .inr _, h => h
theorem repL_kD {F : Hp} : ∀ {ks : List Key} {vs : List V}, RepL K F (ks.map kD) vs → vs = ks.map kV
  | [], _, h => h
  | k :: ks, _, ⟨w, ws, rfl, h1, h2⟩ => by rw [rep_kD h1, repL_kD h2]; rfl
theorem pl_ixD {ks : List Key} {os : List OD} {k : Key} {j : Nat} (hp : Pl K te env i π) (hi : env[i]? = some (.own o)) (ho : o.at π = some (.dic ks os)) (hk : Ev K [] tk env (kD k) env) (hj : ixOf k ks = j) (hl : j < ks.length) : Pl K (tOp (uIx K) te tk) env i (π ++ [j]) := fun B F H σ T r Q q =>
  hp B F H σ T r _ fun s F1 H1 r1 g1 hs => by
    refine hk.pure r1 fun y F2 H2 r2 g2 ry => ?_
    obtain ⟨a, cs, rfl, h1, h3, h2⟩ := r2.here hi ho hs
    have hlc : j < cs.length := by omega
    exact .inr ⟨a, (cs[j]).v, rfl, .inl ⟨_, k, .inl h1, rep_kD ry, by rw [valV_idx hj hl, List.getElem?_map, List.getElem?_eq_getElem hlc]; rfl⟩,
      q (cs[j]) F2 H2 r2 (g1.trans g2) (by rw [ad_at_snoc π _ _ j hs]; exact List.getElem?_eq_getElem hlc)⟩
theorem pl_ixT {ks : List (List Key)} {os : List OD} {k : List Key} {j : Nat} (hp : Pl K te env i π) (hi : env[i]? = some (.own o)) (ho : o.at π = some (.dit ks os)) (hk : Ev K [] tk env (.tup (k.map kD)) env) (hj : ixOf k ks = j) (hl : j < ks.length) : Pl K (tOp (uIx K) te tk) env i (π ++ [j]) := fun B F H σ T r Q q =>
  hp B F H σ T r _ fun s F1 H1 r1 g1 hs => by
    refine hk.pure r1 fun y F2 H2 r2 g2 ry => ?_
    obtain ⟨a, cs, rfl, h1, h3, h2⟩ := r2.here hi ho hs
    obtain ⟨p, vs, e1, e2, e3⟩ := ry
    have hlc : j < cs.length := by omega
    exact .inr ⟨a, (cs[j]).v, rfl, .inr ⟨_, k, p, .inl h1, e1, by rw [r2.fh _ _ e2, repL_kD e3], by rw [valV_idx hj hl, List.getElem?_map, List.getElem?_eq_getElem hlc]; rfl⟩,
      q (cs[j]) F2 H2 r2 (g1.trans g2) (by rw [ad_at_snoc π _ _ j hs]; exact List.getElem?_eq_getElem hlc)⟩
/-! ### changes -/
abbrev Sub (M' M : List Nat) : Prop := ∀ j ∈ M', j ∈ M
/-- the thing at a place is written; what it holds more is new -/
theorem RepS.mutN {B F H : Hp} {σ : L2.St} {env : List Slot} {T : Nat → AD} (r : RepS K B F H σ env T) {i : Nat} {o u : OD} {π : List Nat} (hi : env[i]? = some (.own o)) (ho : o.at π = some u) {a : Addr} {cs : List AD} (hs : (T i).at π = some (.node a cs))
    {x : HO} {u' : OD} {cs' : List AD} (hr : RepA K F (upd H a x) u' (.node a cs')) (nd : (AD.fps cs').Nodup) (hf : ∀ b ∈ AD.fps cs', b ∈ AD.fps cs ∨ (b ≠ a ∧ F b = none ∧ B b = none ∧ ∀ (j : Nat) (w : OD), env[j]? = some (Slot.own w) → b ∉ (T j).fp)) :
    RepS K B F (upd H a x) σ (env.set i (.own (o.put π u'))) (upT T i ((T i).put π (.node a cs'))) ∧ ((T i).put π (.node a cs')).v = (T i).v := by
  obtain ⟨s', e1, e2, e3, e4, mu⟩ := r.mut hi ho
  rw [hs] at e1; cases e1
  have ha : a ∈ (AD.node a cs).fp := List.mem_cons_self
  have na : a ∉ AD.fps cs' := fun z => by
    rcases hf a z with z | z
    · exact (List.nodup_cons.mp e3).1 z
    · exact z.1 rfl
  obtain ⟨m1, m2, m3⟩ := mu F (upd H a x) u' (.node a cs') rfl (.refl _) (r.fh.mut (e4 a ha).2) (fun b y hb hy => by rw [upd_ne (fun z : b = a => hb (z ▸ ha))]; exact hy) (fun p h _ _ => h) hr
    (List.nodup_cons.mpr ⟨na, nd⟩) (fun b hb => by
      rcases List.mem_cons.mp hb with rfl | hb
      · exact ⟨(e4 b ha).2, .inl ha⟩
      · rcases hf b hb with z | z
        · exact ⟨(e4 b (List.mem_cons_of_mem _ z)).2, .inl (List.mem_cons_of_mem _ z)⟩
        · exact ⟨z.2.1, .inr ⟨z.2.2.1, z.2.2.2⟩⟩)
  exact ⟨m1, m2⟩
theorem RepS.nodeN {B F H : Hp} {σ : L2.St} {env : List Slot} {T : Nat → AD} (r : RepS K B F H σ env T) {i : Nat} {o u : OD} {π : List Nat} (hi : env[i]? = some (.own o)) (ho : o.at π = some u) {a : Addr} {cs : List AD} (hs : (T i).at π = some (.node a cs)) :
    RepA K F H u (.node a cs) ∧ (AD.fps cs).Nodup ∧ a ∉ AD.fps cs ∧ (B a = none ∧ F a = none) := by
  obtain ⟨s', e1, e2, e3, e4, _⟩ := r.mut hi ho
  rw [hs] at e1; cases e1
  exact ⟨e2, (List.nodup_cons.mp e3).2, (List.nodup_cons.mp e3).1, e4 a List.mem_cons_self⟩
theorem keepN {F H : Hp} {a : Addr} {x : HO} {os : List OD} {cs : List AD} (h : RepAs K F H os cs) (n : a ∉ AD.fps cs) : RepAs K F (upd H a x) os cs :=
  RepAs.mono (.refl _) os cs (fun b hb y hy => by rw [upd_ne (fun z : b = a => n (z ▸ hb))]; exact hy) h
theorem fps_snoc_leaf (cs : List AD) (v : V) : AD.fps (cs ++ [.leaf v]) = AD.fps cs := by rw [fps_append]; simp [AD.fps, AD.fp]
theorem repAs_one {F H : Hp} {d : D} {v : V} (h : Rep K F d v) : RepAs K F H [.val d] [.leaf v] := ⟨.leaf v, [], rfl, ⟨v, rfl, h⟩, rfl⟩
/-- how a change at a place ends: P behind it -/
theorem fin_put {B F H F2 H2 : Hp} {σ : L2.St} {env env1 : List Slot} {T T2 T3 : Nat → AD} {P : Post} {E : Ends} {M' : List Nat} {env3 : List Slot} (f : Fin K M B F T P E) (g : Gr B F F2) (k2 : Keep M' T T2) (hM : Sub M' M) (hiM : i ∈ M) {t : AD} (hT : T3 = upT T2 i t) (hz : t.v = (T2 i).v) {H3 : Hp}
    (r3 : RepS K B F2 H3 σ env3 T3) (k : P.n env3) : E.nx σ H3 := by
  subst hT
  exact f.n σ F2 _ _ _ r3 g ((k2.sub hM).trans (.up hiM fun z => by subst z; exact hz)) k
theorem st_appP {os : List OD} {M' : List Nat} (hp : Pl K te env i π) (hx : Ev K M' tx env d env1) (hM : Sub M' M) (hi' : i ∉ M') (hiM : i ∈ M) (hi0 : env[i]? = some (.own o)) (ho0 : o.at π = some (.lst os)) (hi : env1[i]? = some (.own o)) (hz : os.length < 100000) {P : Post}
    (k : P.n (env1.set i (.own (o.put π (.lst (os ++ [.val d])))))) : St K M (tDrop (tBM K "list" rAppend te (tCons tx tNil))) env P := fun B F H σ T E r f =>
  hp B F H σ T r _ fun s F1 H1 r1 g1 hs => by
    obtain ⟨a, cs, rfl, h1, h2⟩ := r1.here hi0 ho0 hs
    refine ⟨Or.inl ⟨rfl, _, sq_of h1⟩, hx B F1 H1 σ T r1 _ fun v F2 H2 T2 r2 g2 k2 rv => ?_⟩
    have hs2 : (T2 i).at π = some (.node a cs) := by rw [k2.k i hi']; exact hs
    obtain ⟨⟨a', cs', e5, h3, h4⟩, n1, n2, n3⟩ := r2.nodeN hi ho0 hs2
    injection e5 with e5 e6
    subst e5 e6
    obtain ⟨m1, m2⟩ := r2.mutN hi ho0 hs2 (x := .lst ((cs ++ [AD.leaf v]).map AD.v)) (u' := .lst (os ++ [.val d])) (cs' := cs ++ [.leaf v]) ⟨a, _, rfl, upd_same, (keepN h4 n2).append (repAs_one rv)⟩ (by rw [fps_snoc_leaf]; exact n1) (fun b hb => by rw [fps_snoc_leaf] at hb; exact .inl hb)
    refine ⟨a, cs.map AD.v, v, rfl, rfl, h3, sz_lt (by rw [List.length_map, h4.len]; exact hz), ?_⟩
    rw [show cs.map AD.v ++ [v] = (cs ++ [AD.leaf v]).map AD.v by rw [List.map_append]; rfl]
    exact fin_put (env := env) (env1 := env1) (H := H) (H2 := H2) f (g1.trans g2) k2 hM hiM rfl m2 m1 k
/-- of a new thing of one's own -/
theorem st_appW {os : List OD} {w : OD} {M' : List Nat} (hp : Pl K te env i π) (hx : EvW K M' tx env w env1) (hM : Sub M' M) (hi' : i ∉ M') (hiM : i ∈ M) (hi0 : env[i]? = some (.own o)) (ho0 : o.at π = some (.lst os)) (hi : env1[i]? = some (.own o)) (hz : os.length < 100000) {P : Post}
    (k : P.n (env1.set i (.own (o.put π (.lst (os ++ [w])))))) : St K M (tDrop (tBM K "list" rAppend te (tCons tx tNil))) env P := fun B F H σ T E r f =>
  hp B F H σ T r _ fun s F1 H1 r1 g1 hs => by
    obtain ⟨a, cs, rfl, h1, h2⟩ := r1.here hi0 ho0 hs
    refine ⟨Or.inl ⟨rfl, _, sq_of h1⟩, hx B F1 H1 σ T r1 _ fun t F2 H2 T2 r2 g2 k2 ra nd hn dj => ?_⟩
    have hs2 : (T2 i).at π = some (.node a cs) := by rw [k2.k i hi']; exact hs
    obtain ⟨⟨a', cs', e5, h3, h4⟩, n1, n2, n3⟩ := r2.nodeN hi ho0 hs2
    injection e5 with e5 e6
    subst e5 e6
    obtain ⟨hv, hra, hnd, hnn⟩ := r2.own i o hi
    obtain ⟨s', rest, p1, p2, p3, p4⟩ := RepA.place π o (T2 i) _ hra ho0
    rw [hs2] at p1; cases p1
    have inT : ∀ b ∈ (AD.node a cs).fp, b ∈ (T2 i).fp := fun b hb => p3.mem_iff.mpr (List.mem_append_left _ hb)
    have nat : a ∉ t.fp := fun z => dj i o a hi z (inT a List.mem_cons_self)
    obtain ⟨m1, m2⟩ := r2.mutN hi ho0 hs2 (x := .lst ((cs ++ [t]).map AD.v)) (u' := .lst (os ++ [w])) (cs' := cs ++ [t])
      ⟨a, _, rfl, upd_same, (keepN h4 n2).append ⟨t, [], rfl, RepA.mono (.refl _) w t (fun b hb y hy => by rw [upd_ne (fun z : b = a => nat (z ▸ hb))]; exact hy) ra, rfl⟩⟩
      (by rw [fps_append]; exact List.nodup_append.mpr ⟨n1, by simpa [AD.fps] using nd, fun b hb c hc e => by
        subst e
        exact dj i o b hi (by simpa [AD.fps] using hc) (inT b (List.mem_cons_of_mem _ hb))⟩)
      (fun b hb => by
        rw [fps_append] at hb
        rcases List.mem_append.mp hb with z | z
        · exact .inl z
        · have z : b ∈ t.fp := by simpa [AD.fps] using z
          exact .inr ⟨fun y => nat (y ▸ z), (hn b z).2, (hn b z).1, fun j w' e y => dj j w' b e z y⟩)
    refine ⟨a, cs.map AD.v, t.v, rfl, rfl, h3, sz_lt (by rw [List.length_map, h4.len]; exact hz), ?_⟩
    rw [show cs.map AD.v ++ [t.v] = (cs ++ [t]).map AD.v by rw [List.map_append]; rfl]
    exact fin_put (env := env) (env1 := env1) (H := H) (H2 := H2) f (g1.trans g2) k2 hM hiM rfl m2 m1 k
theorem st_extP {os : List OD} {ds : List D} {M' : List Nat} (hp : Pl K te env i π) (hx : Ev K M' tx env (.lst ds) env1) (hM : Sub M' M) (hi' : i ∉ M') (hiM : i ∈ M) (hi0 : env[i]? = some (.own o)) (ho0 : o.at π = some (.lst os)) (hi : env1[i]? = some (.own o)) (hz : os.length + ds.length ≤ 100000) {P : Post}
    (k : P.n (env1.set i (.own (o.put π (.lst (os ++ ds.map .val)))))) : St K M (tDrop (tBM K "list" rExtend te (tCons tx tNil))) env P := fun B F H σ T E r f =>
  hp B F H σ T r _ fun s F1 H1 r1 g1 hs => by
    obtain ⟨a, cs, rfl, h1, h2⟩ := r1.here hi0 ho0 hs
    refine ⟨Or.inl ⟨rfl, _, sq_of h1⟩, hx B F1 H1 σ T r1 _ fun v F2 H2 T2 r2 g2 k2 ⟨b, us, rv1, rv2, rv3⟩ => ?_⟩
    have hs2 : (T2 i).at π = some (.node a cs) := by rw [k2.k i hi']; exact hs
    obtain ⟨⟨a', cs', e5, h3, h4⟩, n1, n2, n3⟩ := r2.nodeN hi ho0 hs2
    injection e5 with e5 e6
    subst e5 e6
    obtain ⟨m1, m2⟩ := r2.mutN hi ho0 hs2 (x := .lst ((cs ++ leaves us).map AD.v)) (u' := .lst (os ++ ds.map .val)) (cs' := cs ++ leaves us) ⟨a, _, rfl, upd_same, (keepN h4 n2).append (repAs_leaves rv3)⟩
      (by rw [fps_append, fps_leaves, List.append_nil]; exact n1) (fun b hb => by rw [fps_append, fps_leaves, List.append_nil] at hb; exact .inl hb)
    subst rv1
    refine ⟨a, b, cs.map AD.v, us, rfl, rfl, h3, r2.fh _ _ rv2, sz_of (by rw [List.length_map, h4.len, rv3.len]; exact hz), ?_⟩
    rw [show cs.map AD.v ++ us = (cs ++ leaves us).map AD.v by rw [List.map_append, map_leaves]]
    exact fin_put (env := env) (env1 := env1) (H := H) (H2 := H2) f (g1.trans g2) k2 hM hiM rfl m2 m1 k
end
end Dm

set_option Elab.async false
set_option linter.all false
set_option maxRecDepth 100000
set_option maxHeartbeats 4000000
set_option autoImplicit false
/-! Dq: more changes at places. -/
namespace Dm
open PySem L2 Evl StX PyProof.Rows
variable {K : PySem.W.Frag} {M : List Nat}
/-- d[k] = u over what a dict holds -/
def putO {κ α : Type} [DecidableEq κ] (k : κ) (u : α) : List κ → List α → List α
  | n :: ks, o :: os => (if n = k then u else o) :: putO k u ks os
  | _, _ => []
def putKs {κ : Type} [DecidableEq κ] (k : κ) (ks : List κ) : List κ := if k ∈ ks then ks else ks ++ [k]
def putOs {κ α : Type} [DecidableEq κ] (k : κ) (u : α) (ks : List κ) (os : List α) : List α := if k ∈ ks then putO k u ks os else os ++ [u]
theorem putO_zip {κ : Type} [DecidableEq κ] {k : κ} {u : V} : ∀ {ks : List κ} {vs : List V}, ks.length = vs.length → (ks.zip vs).map (fun kv => if kv.1 = k then (kv.1, u) else kv) = ks.zip (putO k u ks vs)
  | [], [], _ => rfl
  | n :: ks, v :: vs, h => by
    rw [List.zip_cons_cons, List.map_cons, putO_zip (by simpa using h), putO, List.zip_cons_cons]
    congr 1
    split <;> rfl
theorem putK_zip {κ : Type} [DecidableEq κ] {k : κ} {u : V} {ks : List κ} {vs : List V} (h : ks.length = vs.length) : putK (ks.zip vs) k u = (putKs k ks).zip (putOs k u ks vs) := by
  have ha : ((ks.zip vs).any fun kv => decide (kv.1 = k)) = decide (k ∈ ks) := by
    rw [Bool.eq_iff_iff, List.any_eq_true, decide_eq_true_eq]
    constructor
    · rintro ⟨p, hp, e⟩
      rw [← of_decide_eq_true e]
      exact (List.of_mem_zip hp).1
    · intro hk
      obtain ⟨i, hi, e⟩ := List.getElem_of_mem hk
      have hv : i < vs.length := by omega
      refine ⟨(ks[i], vs[i]), ?_, decide_eq_true e⟩
      exact List.mem_of_getElem? (i := i) (by rw [List.getElem?_zip_eq_some]; exact ⟨List.getElem?_eq_getElem hi, List.getElem?_eq_getElem hv⟩)
  unfold putK putKs putOs
  rw [ha]
  by_cases hk : k ∈ ks
  · rw [if_pos (decide_eq_true hk), if_pos hk, if_pos hk, putO_zip h]
  · rw [if_neg (by simpa using hk), if_neg hk, if_neg hk, List.zip_append h]; rfl
theorem putO_map {κ α β : Type} [DecidableEq κ] (f : α → β) {k : κ} {u : α} : ∀ (ks : List κ) (os : List α), (putO k u ks os).map f = putO k (f u) ks (os.map f)
  | [], _ => rfl
  | _ :: _, [] => rfl
  | n :: ks, o :: os => by rw [putO, List.map_cons, putO_map f ks os, List.map_cons, putO]; split <;> rfl
theorem putOs_map {κ α β : Type} [DecidableEq κ] (f : α → β) {k : κ} {u : α} (ks : List κ) (os : List α) : (putOs k u ks os).map f = putOs k (f u) ks (os.map f) := by
  unfold putOs
  split
  · exact putO_map f ks os
  · rw [List.map_append]; rfl
theorem putO_len {κ α : Type} [DecidableEq κ] {k : κ} {u : α} : ∀ {ks : List κ} {os : List α}, ks.length = os.length → (putO k u ks os).length = os.length
  | [], [], _ => rfl
  | n :: ks, o :: os, h => by rw [putO, List.length_cons, List.length_cons, putO_len (by simpa using h)]
theorem putOs_len {κ α : Type} [DecidableEq κ] {k : κ} {u : α} {ks : List κ} {os : List α} (h : ks.length = os.length) : (putKs k ks).length = (putOs k u ks os).length := by
  unfold putKs putOs
  split
  · rw [putO_len h, h]
  · rw [List.length_append, List.length_append, h]; rfl
theorem repAs_putO {κ : Type} [DecidableEq κ] {F H : Hp} {k : κ} {d : D} {v : V} (hv : Rep K F d v) : ∀ {ks : List κ} {os : List OD} {cs : List AD}, RepAs K F H os cs → RepAs K F H (putO k (.val d) ks os) (putO k (.leaf v) ks cs)
  | [], _, _, _ => rfl
  | _ :: _, [], _, h => by rw [show _ = [] from h]; rfl
  | n :: ks, o :: os, _, ⟨c, cs, rfl, h1, h2⟩ => by
    rw [putO, putO]
    split
    · exact ⟨.leaf v, _, rfl, ⟨v, rfl, hv⟩, repAs_putO hv h2⟩
    · exact ⟨c, _, rfl, h1, repAs_putO hv h2⟩
theorem repAs_putOs {κ : Type} [DecidableEq κ] {F H : Hp} {k : κ} {d : D} {v : V} {ks : List κ} {os : List OD} {cs : List AD} (hv : Rep K F d v) (h : RepAs K F H os cs) : RepAs K F H (putOs k (.val d) ks os) (putOs k (.leaf v) ks cs) := by
  unfold putOs
  split
  · exact repAs_putO hv h
  · exact h.append (repAs_one hv)
theorem fps_putO {κ : Type} [DecidableEq κ] {k : κ} {v : V} : ∀ (ks : List κ) (cs : List AD), (AD.fps (putO k (.leaf v) ks cs)).Sublist (AD.fps cs)
  | [], _ => by rw [putO]; exact List.nil_sublist _; all_goals simp
  | _ :: _, [] => by rw [putO]; exact List.nil_sublist _; all_goals simp
  | n :: ks, c :: cs => by
    rw [putO]
    split
    · show (AD.fp (.leaf v) ++ AD.fps (putO k (.leaf v) ks cs)).Sublist (c.fp ++ AD.fps cs)
      exact (List.nil_sublist c.fp).append (fps_putO ks cs)
    · exact (List.Sublist.refl _).append (fps_putO ks cs)
theorem fps_putOs {κ : Type} [DecidableEq κ] {k : κ} {v : V} (ks : List κ) (cs : List AD) : (AD.fps (putOs k (.leaf v) ks cs)).Sublist (AD.fps cs) := by
  unfold putOs
  split
  · exact fps_putO ks cs
  · rw [fps_snoc_leaf]; exact .refl _
theorem keepN' {F H : Hp} {a : Addr} {x : HO} {os : List OD} {cs cs0 : List AD} (h : RepAs K F H os cs) (n : a ∉ AD.fps cs0) (s : (AD.fps cs).Sublist (AD.fps cs0)) : RepAs K F (upd H a x) os cs := keepN h fun z => n (s.subset z)
section
variable {env env1 env2 : List Slot} {te ta tb tk tx : TE} {i : Nat} {o u : OD} {π : List Nat} {d b c : D}
theorem st_setLP {os : List OD} {M' : List Nat} {k : Int} {j : Nat} (hx : Ev K M' tx env d env1) (hM : Sub M' M) (hiM : i ∈ M) (hp : Pl K te env1 i π) (hi : env1[i]? = some (.own o)) (ho : o.at π = some (.lst os)) (hk : Ev K [] tk env1 (.int k) env1) (hj : ixN os.length k = some j) (hl : j < os.length) {P : Post}
    (kk : P.n (env1.set i (.own (o.put π (.lst (os.set j (.val d))))))) : St K M (tAsg tx (gSub te tk uSet)) env P := fun B F H σ T E r f =>
  hx B F H σ T r _ fun v F1 H1 T1 r1 g1 k1 rv => hp B F1 H1 σ T1 r1 _ fun s F2 H2 r2 g2 hs => hk.pure r2 fun y F3 H3 r3 g3 ry => by
    obtain ⟨a, cs, rfl, h1, h2⟩ := r3.here hi ho hs
    obtain ⟨_, n1, n2, n3⟩ := r3.nodeN hi ho hs
    have rv3 := (rv.mono g2.f).mono g3.f
    have hlc : j < cs.length := by have := h2.len; omega
    have hsub : ∀ b ∈ AD.fps (cs.set j (.leaf v)), b ∈ AD.fps cs := fun b hb => by
      obtain ⟨rest, p1, p2, p3⟩ := fps_set j (List.getElem?_eq_getElem hlc)
      have := (p2 (.leaf v)).mem_iff.mp hb
      exact p1.mem_iff.mpr (List.mem_append_right _ (by simpa [AD.fp] using this))
    obtain ⟨m1, m2⟩ := r3.mutN hi ho hs (x := .lst ((cs.set j (.leaf v)).map AD.v)) (u' := .lst (os.set j (.val d))) (cs' := cs.set j (.leaf v))
      ⟨a, _, rfl, upd_same, RepAs.set (.refl _) j h2 (List.getElem?_eq_getElem hlc) ⟨v, rfl, rv3⟩ fun q z _ hz b hb y hy => by rw [upd_ne (fun e : b = a => n2 (e ▸ fps_mem hb hz))]; exact hy⟩
      (by
        obtain ⟨rest, p1, p2, p3⟩ := fps_set j (List.getElem?_eq_getElem hlc)
        refine (p2 (.leaf v)).nodup_iff.mpr ?_
        show rest.Nodup
        exact (List.nodup_append.mp (p1.nodup_iff.mp n1)).2.1) (fun b hb => .inl (hsub b hb))
    refine .inl ⟨a, cs.map AD.v, k, j, rfl, ry, h1, by rw [List.length_map, h2.len]; exact hj, ?_⟩
    rw [show (cs.map AD.v).set j v = (cs.set j (AD.leaf v)).map AD.v by rw [List.map_set]; rfl]
    exact fin_put (env := env) (env1 := env1) (H := H) (H2 := H2) f (g1.trans (g2.trans g3)) k1 hM hiM rfl m2 m1 kk
theorem st_setDP {ks : List Key} {os : List OD} {M' : List Nat} {k : Key} (hx : Ev K M' tx env d env1) (hM : Sub M' M) (hiM : i ∈ M) (hp : Pl K te env1 i π) (hi : env1[i]? = some (.own o)) (ho : o.at π = some (.dic ks os)) (hk : Ev K [] tk env1 (kD k) env1) (hz : ks.length < 100000) {P : Post}
    (kk : P.n (env1.set i (.own (o.put π (.dic (putKs k ks) (putOs k (.val d) ks os)))))) : St K M (tAsg tx (gSub te tk uSet)) env P := fun B F H σ T E r f =>
  hx B F H σ T r _ fun v F1 H1 T1 r1 g1 k1 rv => hp B F1 H1 σ T1 r1 _ fun s F2 H2 r2 g2 hs => hk.pure r2 fun y F3 H3 r3 g3 ry => by
    obtain ⟨a, cs, rfl, h1, h3, h2⟩ := r3.here hi ho hs
    obtain ⟨_, n1, n2, n3⟩ := r3.nodeN hi ho hs
    have rv3 := (rv.mono g2.f).mono g3.f
    have hkv : ks.length = (cs.map AD.v).length := by rw [List.length_map]; exact h3
    obtain ⟨m1, m2⟩ := r3.mutN hi ho hs (x := .dK ((putKs k ks).zip ((putOs k (.leaf v) ks cs).map AD.v))) (u' := .dic (putKs k ks) (putOs k (.val d) ks os)) (cs' := putOs k (.leaf v) ks cs)
      ⟨a, _, rfl, upd_same, putOs_len h3, keepN' (repAs_putOs rv3 h2) n2 (fps_putOs ks cs)⟩ (n1.sublist (fps_putOs ks cs)) (fun b hb => .inl ((fps_putOs ks cs).subset hb))
    refine .inr ⟨a, _, rfl, .inl ⟨_, k, h1, rep_kD ry, sz_lt (by rw [List.length_zip]; omega), rfl⟩, ?_⟩
    rw [putK_zip hkv, show putOs k v ks (cs.map AD.v) = (putOs k (AD.leaf v) ks cs).map AD.v by rw [putOs_map]; rfl]
    exact fin_put (env := env) (env1 := env1) (H := H) (H2 := H2) f (g1.trans (g2.trans g3)) k1 hM hiM rfl m2 m1 kk
theorem st_setTP {ks : List (List Key)} {os : List OD} {M' : List Nat} {k : List Key} (hx : Ev K M' tx env d env1) (hM : Sub M' M) (hiM : i ∈ M) (hp : Pl K te env1 i π) (hi : env1[i]? = some (.own o)) (ho : o.at π = some (.dit ks os)) (hk : Ev K [] tk env1 (.tup (k.map kD)) env1) (hz : ks.length < 100000) {P : Post}
    (kk : P.n (env1.set i (.own (o.put π (.dit (putKs k ks) (putOs k (.val d) ks os)))))) : St K M (tAsg tx (gSub te tk uSet)) env P := fun B F H σ T E r f =>
  hx B F H σ T r _ fun v F1 H1 T1 r1 g1 k1 rv => hp B F1 H1 σ T1 r1 _ fun s F2 H2 r2 g2 hs => hk.pure r2 fun y F3 H3 r3 g3 ry => by
    obtain ⟨a, cs, rfl, h1, h3, h2⟩ := r3.here hi ho hs
    obtain ⟨_, n1, n2, n3⟩ := r3.nodeN hi ho hs
    obtain ⟨p, vs, e1, e2, e3⟩ := ry
    have rv3 := (rv.mono g2.f).mono g3.f
    have hkv : ks.length = (cs.map AD.v).length := by rw [List.length_map]; exact h3
    obtain ⟨m1, m2⟩ := r3.mutN hi ho hs (x := .dT ((putKs k ks).zip ((putOs k (.leaf v) ks cs).map AD.v))) (u' := .dit (putKs k ks) (putOs k (.val d) ks os)) (cs' := putOs k (.leaf v) ks cs)
      ⟨a, _, rfl, upd_same, putOs_len h3, keepN' (repAs_putOs rv3 h2) n2 (fps_putOs ks cs)⟩ (n1.sublist (fps_putOs ks cs)) (fun b hb => .inl ((fps_putOs ks cs).subset hb))
    refine .inr ⟨a, _, rfl, .inr ⟨_, k, p, h1, e1, by rw [r3.fh _ _ e2, repL_kD e3], sz_lt (by rw [List.length_zip]; omega), rfl⟩, ?_⟩
    rw [putK_zip hkv, show putOs k v ks (cs.map AD.v) = (putOs k (AD.leaf v) ks cs).map AD.v by rw [putOs_map]; rfl]
    exact fin_put (env := env) (env1 := env1) (H := H) (H2 := H2) f (g1.trans (g2.trans g3)) k1 hM hiM rfl m2 m1 kk
/-! things that are carried along -/
theorem ew_val (h : Ev K M te env d env1) : EvW K M te env (.val d) env1 := fun B F H σ T s Q q =>
  h B F H σ T s _ fun v F1 H1 T1 s1 g1 k1 r1 => q (.leaf v) F1 H1 T1 s1 g1 k1 ⟨v, rfl, r1⟩ (by simp [AD.fp]) (by simp [AD.fp]) (by simp [AD.fp])
theorem RepS.carry {B F H : Hp} {σ : L2.St} {T : Nat → AD} {w : OD} {t : AD} (r : RepS K B F H σ env T) (ra : RepA K F H w t) (hn : ∀ a ∈ t.fp, B a = none ∧ F a = none) (dj : ∀ (j : Nat) (u : OD) (a : Addr), env[j]? = some (Slot.own u) → a ∈ t.fp → a ∉ (T j).fp) :
    ∃ B', Ex B B' ∧ RepS K B' F H σ env T ∧ (∀ F', Gr B' F F' → Gr B F F') ∧ ∀ F' H' env' σ' T', RepS K B' F' H' σ' env' T' → Gr B' F F' → RepA K F' H' w t ∧ (∀ a ∈ t.fp, B a = none ∧ F' a = none) ∧ ∀ (j : Nat) (u : OD) (a : Addr), env'[j]? = some (Slot.own u) → a ∈ t.fp → a ∉ (T' j).fp := by
  obtain ⟨B', b1, b2, rb, b4, b5⟩ := r.base
  have hB : ∀ a ∈ t.fp, B' a ≠ none := fun a ha => by
    obtain ⟨x, hx⟩ := RepA.live w t ra a ha
    rw [b5 a x hx fun j u e z => dj j u a e ha z]; simp
  refine ⟨B', b1, rb, b4, fun F' H' env' σ' T' r' g' => ⟨RepA.mono g'.f w t (fun a ha x hx => ?_) ra, fun a ha => ⟨(hn a ha).1, g'.no a (hn a ha).2 (hB a ha)⟩, fun j u a e ha hb => hB a ha ((r'.own j u e).2.2.2 a hb).1⟩⟩
  exact r'.bh a x (b5 a x hx fun j u e z => dj j u a e ha z)
/-! o.f = e -/
def putNs (f : Str) (ns : List Str) : List Str := if f ∈ ns then ns else ns ++ [f]
def putFs {α : Type} (f : Str) (u : α) (ns : List Str) (os : List α) : List α := if f ∈ ns then os.set (ixOf f ns) u else os ++ [u]
theorem ixOf_lt {κ : Type} [DecidableEq κ] {k : κ} : ∀ {ks : List κ}, k ∈ ks → ixOf k ks < ks.length
  | [], h => by simp at h
  | n :: ks, h => by
    unfold ixOf
    by_cases e : n = k
    · rw [if_pos e]; simp
    · rw [if_neg e, List.length_cons]
      have := ixOf_lt (ks := ks) ((List.mem_cons.mp h).resolve_left fun z => e z.symm)
      omega
theorem putF_zip {f : Str} {y : V} : ∀ {ns : List Str} {vs : List V}, ns.length = vs.length → putF f y (ns.zip vs) = (putNs f ns).zip (putFs f y ns vs)
  | [], [], _ => by simp [putF, putNs, putFs]
  | n :: ns, v :: vs, h => by
    have ih := putF_zip (f := f) (y := y) (ns := ns) (vs := vs) (by simpa using h)
    rw [List.zip_cons_cons, putF]
    unfold putNs putFs at ih ⊢
    by_cases e : n = f
    · subst e
      rw [if_pos rfl, if_pos List.mem_cons_self, if_pos List.mem_cons_self]
      simp [ixOf]
    · rw [if_neg e, ih]
      by_cases hm : f ∈ ns
      · rw [if_pos hm, if_pos hm, if_pos (List.mem_cons_of_mem _ hm), if_pos (List.mem_cons_of_mem _ hm)]
        rw [ixOf, if_neg e, List.set_cons_succ, List.zip_cons_cons]
      · have hm2 : f ∉ n :: ns := fun z => hm ((List.mem_cons.mp z).resolve_left fun y => e y.symm)
        rw [if_neg hm, if_neg hm, if_neg hm2, if_neg hm2]
        rfl
theorem putFs_len {α : Type} {f : Str} {u : α} {ns : List Str} {os : List α} (h : ns.length = os.length) : (putNs f ns).length = (putFs f u ns os).length := by
  unfold putNs putFs
  split
  · rw [List.length_set, h]
  · rw [List.length_append, List.length_append, h]; rfl
theorem putFs_map {α β : Type} (g : α → β) {f : Str} {u : α} (ns : List Str) (os : List α) : (putFs f u ns os).map g = putFs f (g u) ns (os.map g) := by
  unfold putFs
  split
  · rw [List.map_set]
  · rw [List.map_append]; rfl
/-- new things put among others -/
theorem repAs_putFs {F H : Hp} {f : Str} {w : OD} {t : AD} {ns : List Str} {os : List OD} {cs : List AD} (h : RepAs K F H os cs) (hl : ns.length = cs.length) (ht : RepA K F H w t) : RepAs K F H (putFs f w ns os) (putFs f t ns cs) := by
  unfold putFs
  split
  · rename_i hm
    exact RepAs.set (.refl _) _ h (List.getElem?_eq_getElem (by rw [← hl]; exact ixOf_lt hm)) ht fun _ _ _ _ _ _ _ hy => hy
  · exact h.append ⟨t, [], rfl, ht, rfl⟩
theorem fps_putFs {f : Str} {t : AD} {ns : List Str} {cs : List AD} (hl : ns.length = cs.length) (nd : (AD.fps cs).Nodup) (ndt : t.fp.Nodup) (dj : ∀ b ∈ t.fp, b ∉ AD.fps cs) : (AD.fps (putFs f t ns cs)).Nodup ∧ ∀ b ∈ AD.fps (putFs f t ns cs), b ∈ AD.fps cs ∨ b ∈ t.fp := by
  unfold putFs
  split
  · rename_i hm
    obtain ⟨rest, p1, p2, p3⟩ := fps_set _ (List.getElem?_eq_getElem (show ixOf f ns < cs.length by rw [← hl]; exact ixOf_lt hm))
    have sub : ∀ b ∈ rest, b ∈ AD.fps cs := fun b hb => p1.mem_iff.mpr (List.mem_append_right _ hb)
    refine ⟨(p2 t).nodup_iff.mpr (List.nodup_append.mpr ⟨ndt, (List.nodup_append.mp (p1.nodup_iff.mp nd)).2.1, fun a ha b hb e => dj a ha (e ▸ sub b hb)⟩), fun b hb => ?_⟩
    rcases List.mem_append.mp ((p2 t).mem_iff.mp hb) with z | z
    · exact .inr z
    · exact .inl (sub b z)
  · rw [fps_append]
    refine ⟨List.nodup_append.mpr ⟨nd, by simpa [AD.fps] using ndt, fun a ha b hb e => dj b (by simpa [AD.fps] using hb) (e ▸ ha)⟩, fun b hb => ?_⟩
    rcases List.mem_append.mp hb with z | z
    · exact .inl z
    · exact .inr (by simpa [AD.fps] using z)
theorem in_slot {B F H : Hp} {σ : L2.St} {T : Nat → AD} (r : RepS K B F H σ env T) (hi : env[i]? = some (.own o)) (ho : o.at π = some u) {s : AD} (hs : (T i).at π = some s) : ∀ b ∈ s.fp, b ∈ (T i).fp := fun b hb => by
  obtain ⟨hv, hra, hnd, hnn⟩ := r.own i o hi
  obtain ⟨s', rest, p1, p2, p3, p4⟩ := RepA.place π o (T i) _ hra ho
  rw [hs] at p1; cases p1
  exact p3.mem_iff.mpr (List.mem_append_left _ hb)
theorem st_fldW {C : Addr} {ns : List Str} {os : List OD} {w : OD} {M' : List Nat} {f : Str} (hx : EvW K M' tx env w env1) (hM : Sub M' M) (hiM : i ∈ M) (hp : Pl K te env1 i π) (hi : env1[i]? = some (.own o)) (ho : o.at π = some (.obj C ns os)) (c : Cls K C) (hn : NoAttr K C f) (hz : ns.length < 1000) {P : Post}
    (kk : P.n (env1.set i (.own (o.put π (.obj C (putNs f ns) (putFs f w ns os)))))) : St K M (sFld K te tx f) env P := fun B F H σ T E r fin =>
  hx B F H σ T r _ fun t F1 H1 T1 r1 g1 k1 ra nd hn' dj => by
    obtain ⟨B', b1, rb, b4, b5⟩ := r1.carry ra hn' dj
    refine hp B' F1 H1 σ T1 rb _ fun s F2 H2 r2 g2 hs => ?_
    obtain ⟨ra2, hn2, dj2⟩ := b5 F2 H2 _ _ _ r2 g2
    obtain ⟨a, dx, cs, rfl, h1, h3, h2⟩ := r2.here hi ho hs
    have r2' := r2.subB b1
    obtain ⟨_, n1, n2, n3⟩ := r2'.nodeN hi ho hs
    have nat : ∀ b ∈ t.fp, b ∉ (AD.node a cs).fp := fun b hb z => dj2 i o b hi hb (in_slot r2' hi ho hs b z)
    have na : a ∉ t.fp := fun z => nat a z List.mem_cons_self
    obtain ⟨f1, f2⟩ := fps_putFs (f := f) h3 n1 nd fun b hb z => nat b hb (List.mem_cons_of_mem _ z)
    obtain ⟨m1, m2⟩ := r2'.mutN hi ho hs (x := .ins C dx ((putNs f ns).zip ((putFs f t ns cs).map AD.v))) (u' := .obj C (putNs f ns) (putFs f w ns os)) (cs' := putFs f t ns cs)
      ⟨a, dx, _, rfl, upd_same, putFs_len h3, repAs_putFs (keepN h2 n2) h3 (RepA.mono (.refl _) w t (fun b hb y hy => by rw [upd_ne (fun z : b = a => na (z ▸ hb))]; exact hy) ra2)⟩ f1
      (fun b hb => by
        rcases f2 b hb with z | z
        · exact .inl z
        · exact .inr ⟨fun y => na (y ▸ z), (hn2 b z).2, (hn2 b z).1, fun j w' e y => dj2 j w' b e z y⟩)
    refine ⟨a, C, dx, _, rfl, h1, c, hn, by rw [List.length_zip]; omega, ?_⟩
    rw [putF_zip (by rw [List.length_map]; exact h3), show putFs f t.v ns (cs.map AD.v) = (putFs f t ns cs).map AD.v by rw [putFs_map]]
    exact fin_put (env := env) (env1 := env1) (H := H) (H2 := H2) fin (g1.trans (b4 _ g2)) k1 hM hiM rfl m2 m1 kk
end
end Dm

set_option Elab.async false
set_option linter.all false
set_option maxRecDepth 100000
set_option maxHeartbeats 4000000
set_option autoImplicit false
/-! Dr: promises of defs. -/
namespace Dm
open PySem L2 Evl StX PyProof.Rows
variable {K : PySem.W.Frag} {M : List Nat}
/-- what is told stands -/
def ResOk (K : PySem.W.Frag) (F' H' : Hp) (no : Addr → Prop) : Res → V → Prop
  | .v d, v => Rep K F' d v
  | .w o, v => ∃ t : AD, t.v = v ∧ RepA K F' H' o t ∧ t.fp.Nodup ∧ ∀ a ∈ t.fp, F' a = none ∧ no a
/-- of arguments that are not changed -/
def spF (K : PySem.W.Frag) (R : List D → Res → Prop) : Sp := fun vs H Q _ => ∃ F ds x, Ex F H ∧ RepL K F ds vs ∧ R ds x ∧ ∀ v F' H', Up F H F' H' → ResOk K F' H' (fun a => H a = none) x v → Q v H'
/-- the first argument is changed -/
def spO (K : PySem.W.Frag) (R : OD → List D → Res → OD → Prop) : Sp := fun vs H Q _ => ∃ F o t ds x o' ws, vs = t.v :: ws ∧ Ex F H ∧ RepA K F H o t ∧ t.fp.Nodup ∧ (∀ a ∈ t.fp, F a = none) ∧ RepL K F ds ws ∧ R o ds x o' ∧
  ∀ v F' H' t', t'.v = t.v → (∀ a u, a ∉ t.fp → H a = some u → H' a = some u) → Ex F F' → Ex F' H' → (∀ p, F p = none → H p ≠ none → p ∉ t.fp → F' p = none) → RepA K F' H' o' t' → t'.fp.Nodup → (∀ a ∈ t'.fp, F' a = none ∧ (a ∈ t.fp ∨ H a = none)) →
    ResOk K F' H' (fun a => (a ∈ t.fp ∨ H a = none) ∧ a ∉ t'.fp) x v → Q v H'
section
variable {env env1 env2 : List Slot} {te ta tb tk tx : TE} {i : Nat} {o o' u u' w : OD} {π : List Nat} {d b c : D} {t : TA} {ds : List D} {E : XK}
theorem Up.rep {B F H F' H' : Hp} {σ : L2.St} {T : Nat → AD} (r : RepS K B F H σ env T) (u : Up F H F' H') : RepS K B F' H' σ env T ∧ Gr B F F' := ⟨r.up u, .of_up r.bh u⟩
theorem ev_callF {R : List D → Res → Prop} (ha : EvA K M t env ds env1) (hR : R ds (.v d)) : Ev K M (tCall (spF K R) [] E t) env d env1 := fun B F H σ T s Q q =>
  ha B F H σ T s _ fun vs F1 H1 T1 s1 g1 k1 r1 => ⟨F1, ds, .v d, s1.fh, by rw [List.append_nil]; exact r1, hR, fun v F' H' u rv => q v F' H' T1 (s1.up u) (g1.trans (.of_up s1.bh u)) k1 rv⟩
theorem fresh_of {B F H F' : Hp} {σ : L2.St} {T : Nat → AD} (s1 : RepS K B F H σ env T) {t : AD} (h : ∀ a ∈ t.fp, F' a = none ∧ H a = none) :
    (∀ a ∈ t.fp, B a = none ∧ F' a = none) ∧ ∀ (j : Nat) (u : OD) (a : Addr), env[j]? = some (Slot.own u) → a ∈ t.fp → a ∉ (T j).fp :=
  ⟨fun a ha => ⟨fresh_back s1.bh (h a ha).2, (h a ha).1⟩, fun j u a e ha hb => by
    obtain ⟨x, hx⟩ := RepA.live u _ (s1.own j u e).2.1 a hb
    rw [(h a ha).2] at hx; cases hx⟩
theorem ew_callF {R : List D → Res → Prop} (ha : EvA K M t env ds env1) (hR : R ds (.w w)) : EvW K M (tCall (spF K R) [] E t) env w env1 := fun B F H σ T s Q q =>
  ha B F H σ T s _ fun vs F1 H1 T1 s1 g1 k1 r1 => ⟨F1, ds, .w w, s1.fh, by rw [List.append_nil]; exact r1, hR, fun v F' H' u ⟨t, ht, ra, nd, hn⟩ => by
    obtain ⟨z1, z2⟩ := fresh_of s1 hn
    subst ht
    exact q t F' H' T1 (s1.up u) (g1.trans (.of_up s1.bh u)) k1 ra nd z1 z2⟩
/-- what stood at a place went through a def that changes it -/
theorem RepS.call {B F H F' H' : Hp} {σ : L2.St} {T : Nat → AD} (r : RepS K B F H σ env T) (hi : env[i]? = some (.own o)) (ho : o.at π = some u) {s t' : AD} (hs : (T i).at π = some s) {x : Res} {v : V} (e1 : t'.v = s.v) (e2 : ∀ a u, a ∉ s.fp → H a = some u → H' a = some u) (e3 : Ex F F') (e4 : Ex F' H')
    (e5 : ∀ p, F p = none → H p ≠ none → p ∉ s.fp → F' p = none) (e6 : RepA K F' H' u' t') (e7 : t'.fp.Nodup) (e8 : ∀ a ∈ t'.fp, F' a = none ∧ (a ∈ s.fp ∨ H a = none)) :
    RepS K B F' H' σ (env.set i (.own (o.put π u'))) (upT T i ((T i).put π t')) ∧ Gr B F F' ∧ ((T i).put π t').v = (T i).v := by
  obtain ⟨s', a1, a2, a3, a4, mu⟩ := r.mut hi ho
  rw [hs] at a1; cases a1
  obtain ⟨m1, m2, m3⟩ := mu F' H' u' t' e1 e3 e4 (fun a x ha hx => e2 a x ha hx) e5 e6 e7 fun a ha => ⟨(e8 a ha).1, (e8 a ha).2.imp id fun z => ⟨fresh_back r.bh z, fun j w e y => by
    obtain ⟨x, hx⟩ := RepA.live w _ (r.own j w e).2.1 a y
    rw [z] at hx; cases hx⟩⟩
  exact ⟨m1, ⟨e3, m3⟩, m2⟩
theorem ev_callO {R : OD → List D → Res → OD → Prop} {M' : List Nat} (hp : Pl K te env i π) (ha : EvA K M' t env ds env1) (hM : Sub M' M) (hi' : i ∉ M') (hiM : i ∈ M) (hi0 : env[i]? = some (.own o)) (hi : env1[i]? = some (.own o)) (ho : o.at π = some u) (hR : R u ds (.v d) u') :
    Ev K M (tCall (spO K R) [] E (tCons te t)) env d (env1.set i (.own (o.put π u'))) := fun B F H σ T s Q q =>
  hp B F H σ T s _ fun tt F1 H1 s1 g1 hs => ha B F1 H1 σ T s1 _ fun vs F2 H2 T2 s2 g2 k2 r2 => by
    have hs2 : (T2 i).at π = some tt := by rw [k2.k i hi']; exact hs
    obtain ⟨s', a1, a2, a3, a4, mu⟩ := s2.mut hi ho
    rw [hs2] at a1; cases a1
    refine ⟨F2, u, tt, ds, .v d, u', vs, by rw [List.append_nil], s2.fh, a2, a3, fun a ha => (a4 a ha).2, r2, hR, fun v F' H' t' e1 e2 e3 e4 e5 e6 e7 e8 e9 => ?_⟩
    obtain ⟨m1, m2, m3⟩ := s2.call hi ho hs2 (x := .v d) (v := v) e1 e2 e3 e4 e5 e6 e7 e8
    exact q v F' H' _ m1 (g1.trans (g2.trans m2)) ((k2.sub hM).trans (.up hiM fun z => by subst z; exact m3)) e9
theorem ew_callO {R : OD → List D → Res → OD → Prop} {M' : List Nat} (hp : Pl K te env i π) (ha : EvA K M' t env ds env1) (hM : Sub M' M) (hi' : i ∉ M') (hiM : i ∈ M) (hi0 : env[i]? = some (.own o)) (hi : env1[i]? = some (.own o)) (ho : o.at π = some u) (hR : R u ds (.w w) u') :
    EvW K M (tCall (spO K R) [] E (tCons te t)) env w (env1.set i (.own (o.put π u'))) := fun B F H σ T s Q q =>
  hp B F H σ T s _ fun tt F1 H1 s1 g1 hs => ha B F1 H1 σ T s1 _ fun vs F2 H2 T2 s2 g2 k2 r2 => by
    have hs2 : (T2 i).at π = some tt := by rw [k2.k i hi']; exact hs
    obtain ⟨s', a1, a2, a3, a4, mu⟩ := s2.mut hi ho
    rw [hs2] at a1; cases a1
    obtain ⟨hv, hra, hnd, hnn⟩ := s2.own i o hi
    obtain ⟨s'', rest, p1, p2, p3, p4⟩ := RepA.place π o (T2 i) _ hra ho
    rw [hs2] at p1; cases p1
    refine ⟨F2, u, tt, ds, .w w, u', vs, by rw [List.append_nil], s2.fh, a2, a3, fun a ha => (a4 a ha).2, r2, hR, fun v F' H' t' e1 e2 e3 e4 e5 e6 e7 e8 ⟨t, ht, ra, nd, hn⟩ => ?_⟩
    obtain ⟨m1, m2, m3⟩ := s2.call hi ho hs2 (x := .w w) (v := v) e1 e2 e3 e4 e5 e6 e7 e8
    subst ht
    have inT : ∀ b ∈ tt.fp, b ∈ (T2 i).fp := fun b hb => p3.mem_iff.mpr (List.mem_append_left _ hb)
    have dead : ∀ a ∈ t.fp, ∀ (j : Nat) (u : OD), env1[j]? = some (Slot.own u) → a ∈ (T2 j).fp → a ∈ tt.fp := fun a ha j u e hb => by
      rcases (hn a ha).2.1 with z | z
      · exact z
      · obtain ⟨x, hx⟩ := RepA.live u _ (s2.own j u e).2.1 a hb
        rw [z] at hx; cases hx
    obtain ⟨q1, q2, q3⟩ := p4 F' H' u' t' e1 e3 (fun a ha hs x hx => e2 a x hs hx) hnd e6
    have nodu := (p3.nodup_iff.mp hnd)
    refine q t F' H' _ m1 (g1.trans (g2.trans m2)) ((k2.sub hM).trans (.up hiM fun z => by subst z; exact m3)) ra nd (fun a ha => ⟨?_, (hn a ha).1⟩) fun j u'' a e ha hb => ?_
    · rcases (hn a ha).2.1 with z | z
      · exact (a4 a z).1
      · exact fresh_back s2.bh z
    · rcases set_get e with ⟨rfl, _, _⟩ | ⟨hj, e'⟩
      · rw [upT_same] at hb
        rcases List.mem_append.mp (q2.mem_iff.mp hb) with z | z
        · exact (hn a ha).2.2 z
        · have hin : a ∈ (T2 i).fp := p3.mem_iff.mpr (List.mem_append_right _ z)
          have := dead a ha i o hi hin
          exact (List.nodup_append.mp nodu).2.2 a this a z rfl
      · rw [upT_ne (Ne.symm hj)] at hb
        have h1 := dead a ha j u'' e' hb
        exact hj (s2.sep i j o u'' a hi e' (inT a h1) hb)
/-- C(..) -/
theorem ew_make {C : Addr} {R : OD → List D → Res → OD → Prop} (ha : EvA K M t env ds env1) (hR : R (.obj C [] []) ds (.v .non) w) : EvW K M (tMake C (spO K R) [] E t) env w env1 := fun B F H σ T s Q q =>
  ha B F H σ T s _ fun vs F1 H1 T1 s1 g1 k1 r1 => by
    intro x dx hx hdx hne
    have hx2 : upd H1 dx (.own x) x = none := by rw [upd_ne (Ne.symm hne)]; exact hx
    have u1 : Up F1 H1 F1 (upd (upd H1 dx (.own x)) x (.ins C dx [])) := (Up.heap s1.fh hdx).trans (Up.heap (s1.fh.trans (Evl.Ex.new hdx)) hx2)
    refine ⟨F1, .obj C [] [], .node x [], ds, .v .non, w, vs, by rw [List.append_nil]; rfl, u1.fh, ⟨x, dx, [], rfl, by rw [upd_same]; rfl, rfl, rfl⟩, by simp [AD.fp, AD.fps], fun a ha => ?_, r1, hR, fun v F' H' t' e1 e2 e3 e4 e5 e6 e7 e8 e9 => ⟨e9, ?_⟩⟩
    · have ha : a = x := by simpa [AD.fp, AD.fps] using ha
      rw [ha]; exact fresh_back s1.fh hx
    · have hold : ∀ a u, H1 a = some u → a ∉ (AD.node x []).fp := fun a u h z => by
        have z : a = x := by simpa [AD.fp, AD.fps] using z
        rw [z, hx] at h; cases h
      have u2 : Up F1 H1 F' H' := ⟨fun a u h => e2 a u (hold a u h) (u1.h a u h), e3, e4, fun p h1 h2 => by
        cases hp : H1 p with
        | none => exact absurd hp h2
        | some y => exact e5 p h1 (by rw [u1.h p y hp]; simp) (hold p y hp)⟩
      have hn : ∀ a ∈ t'.fp, F' a = none ∧ H1 a = none := fun a ha => ⟨(e8 a ha).1, by
        cases hp : H1 a with
        | none => rfl
        | some y =>
          rcases (e8 a ha).2 with z | z
          · exact absurd z (hold a y hp)
          · rw [u1.h a y hp] at z; cases z⟩
      obtain ⟨z1, z2⟩ := fresh_of s1 hn
      have := q t' F' H' T1 (s1.up u2) (g1.trans (.of_up s1.bh u2)) k1 e6 e7 z1 z2
      rw [e1] at this
      exact this
/-! methods -/
theorem lk_none {ns : List Str} {vs : List V} {m : Str} (h : ns.contains m = false) : (ns.zip vs).lookup m = none := by
  induction ns generalizing vs with
  | nil => rfl
  | cons n ns ih =>
    cases vs with
    | nil => rfl
    | cons v vs =>
      rw [List.contains_cons] at h
      have h := Bool.or_eq_false_iff.mp h
      rw [List.zip_cons_cons, List.lookup_cons, h.1]
      exact ih h.2
theorem ev_methF {R : List D → Res → Prop} {C : Addr} {m : Str} {ns : List Str} {os : List D} (ho : Ev K M te env (.obj C ns os) env1) (hm : ns.contains m = false) (ha : EvA K M t env1 ds env2) (hR : R (.obj C ns os :: ds) (.v d)) : Ev K M (tMeth C m (spF K R) [] E te t) env d env2 := fun B F H σ T s Q q =>
  ho B F H σ T s _ fun v F1 H1 T1 s1 g1 k1 ⟨a, dx, vs, h1, h2, h3, h4⟩ => ⟨a, dx, _, h1, s1.fh _ _ h2, lk_none hm, ha B F1 H1 σ T1 s1 _ fun ws F2 H2 T2 s2 g2 k2 r2 =>
    ⟨F2, .obj C ns os :: ds, .v d, s2.fh, by rw [List.append_nil]; exact ⟨v, ws, rfl, ⟨a, dx, vs, h1, g2.f _ _ h2, h3, h4.mono g2.f⟩, r2⟩, hR, fun v F' H' u rv => q v F' H' T2 (s2.up u) ((g1.trans g2).trans (.of_up s2.bh u)) (k1.trans k2) rv⟩⟩
theorem ew_methF {R : List D → Res → Prop} {C : Addr} {m : Str} {ns : List Str} {os : List D} (ho : Ev K M te env (.obj C ns os) env1) (hm : ns.contains m = false) (ha : EvA K M t env1 ds env2) (hR : R (.obj C ns os :: ds) (.w w)) : EvW K M (tMeth C m (spF K R) [] E te t) env w env2 := fun B F H σ T s Q q =>
  ho B F H σ T s _ fun v F1 H1 T1 s1 g1 k1 ⟨a, dx, vs, h1, h2, h3, h4⟩ => ⟨a, dx, _, h1, s1.fh _ _ h2, lk_none hm, ha B F1 H1 σ T1 s1 _ fun ws F2 H2 T2 s2 g2 k2 r2 =>
    ⟨F2, .obj C ns os :: ds, .w w, s2.fh, by rw [List.append_nil]; exact ⟨v, ws, rfl, ⟨a, dx, vs, h1, g2.f _ _ h2, h3, h4.mono g2.f⟩, r2⟩, hR, fun v F' H' u ⟨t, ht, ra, nd, hn⟩ => by
      obtain ⟨z1, z2⟩ := fresh_of s2 hn
      subst ht
      exact q t F' H' T2 (s2.up u) ((g1.trans g2).trans (.of_up s2.bh u)) (k1.trans k2) ra nd z1 z2⟩⟩
theorem ev_propF {R : List D → Res → Prop} {C : Addr} {ns : List Str} {os : List D} (ho : Ev K M te env (.obj C ns os) env1) (hR : R [.obj C ns os] (.v d)) : Ev K M (tProp C (spF K R) [] E te) env d env1 := fun B F H σ T s Q q =>
  ho B F H σ T s _ fun v F1 H1 T1 s1 g1 k1 ⟨a, dx, vs, h1, h2, h3, h4⟩ => ⟨a, dx, _, h1, s1.fh _ _ h2, F1, [.obj C ns os], .v d, s1.fh, ⟨.ref a, [], rfl, ⟨a, dx, vs, rfl, h2, h3, h4⟩, rfl⟩, hR, fun v F' H' u rv => q v F' H' T1 (s1.up u) (g1.trans (.of_up s1.bh u)) k1 rv⟩
/-- of a thing of one's own: o.m(..) -/
theorem ev_methO {R : OD → List D → Res → OD → Prop} {C : Addr} {m : Str} {ns : List Str} {os : List OD} {M' : List Nat} (hp : Pl K te env i π) (hm : ns.contains m = false) (ha : EvA K M' t env ds env1) (hM : Sub M' M) (hi' : i ∉ M') (hiM : i ∈ M) (hi0 : env[i]? = some (.own o)) (hi : env1[i]? = some (.own o))
    (ho : o.at π = some (.obj C ns os)) (hR : R (.obj C ns os) ds (.v d) u') : Ev K M (tMeth C m (spO K R) [] E te t) env d (env1.set i (.own (o.put π u'))) := fun B F H σ T s Q q =>
  hp B F H σ T s _ fun tt F1 H1 s1 g1 hs => by
    obtain ⟨a, dx, cs, rfl, h1, h3, h2⟩ := s1.here hi0 ho hs
    refine ⟨a, dx, _, rfl, h1, lk_none hm, ha B F1 H1 σ T s1 _ fun vs F2 H2 T2 s2 g2 k2 r2 => ?_⟩
    have hs2 : (T2 i).at π = some (.node a cs) := by rw [k2.k i hi']; exact hs
    obtain ⟨s', a1, a2, a3, a4, mu⟩ := s2.mut hi ho
    rw [hs2] at a1; cases a1
    refine ⟨F2, _, .node a cs, ds, .v d, u', vs, by rw [List.append_nil], s2.fh, a2, a3, fun a ha => (a4 a ha).2, r2, hR, fun v F' H' t' e1 e2 e3 e4 e5 e6 e7 e8 e9 => ?_⟩
    obtain ⟨m1, m2, m3⟩ := s2.call hi ho hs2 (x := .v d) (v := v) e1 e2 e3 e4 e5 e6 e7 e8
    exact q v F' H' _ m1 (g1.trans (g2.trans m2)) ((k2.sub hM).trans (.up hiM fun z => by subst z; exact m3)) e9
/-- .. that is read, a property -/
theorem ev_propO {R : OD → List D → Res → OD → Prop} {C : Addr} {ns : List Str} {os : List OD} (hp : Pl K te env i π) (hiM : i ∈ M) (hi : env[i]? = some (.own o)) (ho : o.at π = some (.obj C ns os)) (hR : R (.obj C ns os) [] (.v d) u') :
    Ev K M (tProp C (spO K R) [] E te) env d (env.set i (.own (o.put π u'))) := fun B F H σ T s Q q =>
  hp B F H σ T s _ fun tt F1 H1 s1 g1 hs => by
    obtain ⟨a, dx, cs, rfl, h1, h3, h2⟩ := s1.here hi ho hs
    obtain ⟨s', a1, a2, a3, a4, mu⟩ := s1.mut hi ho
    rw [hs] at a1; cases a1
    refine ⟨a, dx, _, rfl, h1, F1, _, .node a cs, [], .v d, u', [], rfl, s1.fh, a2, a3, fun a ha => (a4 a ha).2, rfl, hR, fun v F' H' t' e1 e2 e3 e4 e5 e6 e7 e8 e9 => ?_⟩
    obtain ⟨m1, m2, m3⟩ := s1.call hi ho hs (x := .v d) (v := v) e1 e2 e3 e4 e5 e6 e7 e8
    exact q v F' H' _ m1 (g1.trans m2) (.up hiM fun z => by subst z; exact m3) e9
/-- a slot's own thing is moved on -/
theorem ew_move (hi : env[i]? = some (.own o)) : EvW K M (tVar i) env o (env.set i .no) := fun B F H σ T r Q q => by
  obtain ⟨h1, h2, h3, h4⟩ := r.own i o hi
  have wk : Wk env (env.set i .no) := ⟨by simp, fun j s hs => by
    rcases set_get hs with ⟨rfl, z, _⟩ | ⟨_, z⟩
    · exact .inl z
    · exact .inr z⟩
  exact ⟨_, h1, q (T i) F H T (r.weak wk) .refl .refl h2 h3 h4 fun j u a ej ha hb => by
    rcases set_get ej with ⟨rfl, z, _⟩ | ⟨hj, z⟩
    · cases z
    · exact hj (r.sep i j o u a hi z ha hb)⟩
/-- .. is frozen -/
theorem ev_give (hi : env[i]? = some (.own o)) : Ev K M (tVar i) env o.fz (env.set i .no) := ev_fz (ew_move hi)
/-! list.pop -/
theorem ev_popAt {os : List OD} {M' : List Nat} {k : Int} {j : Nat} (hp : Pl K te env i π) (hx : Ev K M' tk env (.int k) env1) (hM : Sub M' M) (hi' : i ∉ M') (hiM : i ∈ M) (hi0 : env[i]? = some (.own o)) (hi : env1[i]? = some (.own o)) (ho : o.at π = some (.lst os)) (hk : -(2 ^ 63) ≤ k ∧ k < 2 ^ 63) (hj : seqIndex? k os.length = some j) (hd : os[j]? = some (.val d)) :
    Ev K M (tBM K "list" rPopAt te (tCons tk tNil)) env d (env1.set i (.own (o.put π (.lst (os.eraseIdx j))))) := fun B F H σ T r Q q =>
  hp B F H σ T r _ fun s F1 H1 r1 g1 hs => by
    obtain ⟨a, cs, rfl, h1, h2⟩ := r1.here hi0 ho hs
    refine ⟨Or.inl ⟨rfl, _, sq_of h1⟩, hx B F1 H1 σ T r1 _ fun v F2 H2 T2 r2 g2 k2 rv => ?_⟩
    have hs2 : (T2 i).at π = some (.node a cs) := by rw [k2.k i hi']; exact hs
    obtain ⟨⟨a', cs', e5, h3, h4⟩, n1, n2, n3⟩ := r2.nodeN hi ho hs2
    injection e5 with e5 e6
    subst e5 e6
    obtain ⟨cj, hcj, y, rfl, ry⟩ := h4.get hd
    have hl : j < cs.length := (List.getElem?_eq_some_iff.mp hcj).1
    have er : ∀ {os : List OD} {cs : List AD} (j : Nat), RepAs K F2 H2 os cs → RepAs K F2 H2 (os.eraseIdx j) (cs.eraseIdx j) := fun {os cs} j h => by
      induction os generalizing cs j with
      | nil => rw [show cs = [] from h]; rfl
      | cons o os ih =>
        obtain ⟨c, cs', rfl, z1, z2⟩ := h
        cases j with
        | zero => exact z2
        | succ j => exact ⟨c, cs'.eraseIdx j, rfl, z1, ih j z2⟩
    have sub : ∀ (cs : List AD) (j : Nat), (AD.fps (cs.eraseIdx j)).Sublist (AD.fps cs) := fun cs => by
      induction cs with
      | nil => intro j; exact .refl _
      | cons c cs ih =>
        intro j
        cases j with
        | zero => exact List.sublist_append_right _ _
        | succ j => exact (List.Sublist.refl _).append (ih j)
    obtain ⟨m1, m2⟩ := r2.mutN hi ho hs2 (x := .lst ((cs.eraseIdx j).map AD.v)) (u' := .lst (os.eraseIdx j)) (cs' := cs.eraseIdx j) ⟨a, _, rfl, upd_same, keepN' (er j h4) n2 (sub cs j)⟩ (n1.sublist (sub cs j)) (fun b hb => .inl ((sub cs j).subset hb))
    refine ⟨a, cs.map AD.v, k, j, y, rfl, by rw [show v = .int k from rv], h3, hk.1, hk.2, by rw [List.length_map, h4.len]; exact hj, by rw [List.getElem?_map, hcj]; rfl, ?_⟩
    have em : (cs.map AD.v).eraseIdx j = (cs.eraseIdx j).map AD.v := by simp [List.eraseIdx_eq_take_drop_succ, List.map_take, List.map_drop]
    rw [em]
    exact q y F2 _ _ m1 (g1.trans g2) ((k2.sub hM).trans (.up hiM fun z => by subst z; exact m2)) ry
end
/-! ### bodies -/
theorem rep_start {F H : Hp} {σ : L2.St} : ∀ {ds : List D} {vs : List V} (n : Nat) (i : Nat) (d : D), RepL K F ds vs → (ds.map Slot.val ++ List.replicate n .no)[i]? = some (.val d) → ∃ v, (vs.map some ++ List.replicate n none)[i]? = some (some v) ∧ Rep K F d v
  | [], _, n, i, d, h, e => by
    rw [List.map_nil, List.nil_append] at e
    have := List.eq_of_mem_replicate (List.mem_of_getElem? e)
    cases this
  | d0 :: ds, _, n, 0, d, ⟨w, ws, rfl, h1, h2⟩, e => by
    have e : d0 = d := by simpa using e
    subst e; exact ⟨w, rfl, h1⟩
  | d0 :: ds, _, n, i + 1, d, ⟨w, ws, rfl, h1, h2⟩, e => by
    have := rep_start (F := F) (H := H) (σ := σ) n i d h2 (by simpa using e)
    simpa using this
theorem no_own {ds : List D} {n i : Nat} {o : OD} (e : (ds.map Slot.val ++ List.replicate n .no)[i]? = some (.own o)) : False := by
  rcases List.mem_append.mp (List.mem_of_getElem? e) with h | h
  · obtain ⟨d, _, z⟩ := List.mem_map.mp h; cases z
  · have := List.eq_of_mem_replicate h; cases this
abbrev RetF (x : Res) : Post := { n := fun _ => x = .v .non, r := fun y _ => y = x }
abbrev RetO (x : Res) (o' : OD) : Post := { n := fun e => x = .v .non ∧ e[0]? = some (Slot.own o'), r := fun y e => y = x ∧ e[0]? = some (Slot.own o') }
theorem body_F {R : List D → Res → Prop} {t : TS} {N : List Str} (hb : ∀ ds x, R ds x → St K M t (ds.map Slot.val ++ List.replicate (N.length - ds.length) .no) (RetF x)) :
    ∀ (vs : List V) (H : Hp) (Q : VK) (E : XK), spF K R vs H Q E → t { nx := fun _ H' => Q .non H', rt := Q } (L2.start N vs) H := fun vs H Q E ⟨F, ds, x, e, r, hR, q⟩ => by
  have hl : vs.length = ds.length := r.len
  unfold L2.start
  rw [hl]
  have r0 : RepS K H F H (vs.map some ++ List.replicate (N.length - ds.length) none) (ds.map Slot.val ++ List.replicate (N.length - ds.length) .no) (fun _ => .leaf .non) :=
    ⟨.refl _, e, fun i d z => rep_start (H := H) (σ := []) _ i d r z, fun i o z => (no_own z).elim, fun i j o u a z => (no_own z).elim, by simp [hl]⟩
  have fin : ∀ {v : V} {σ' : L2.St} {F' H' : Hp} {env' : List Slot} {T' : Nat → AD}, RepS K H F' H' σ' env' T' → Gr H F F' → ResOk K F' H' (fun a => H a = none) x v → Q v H' := fun {v σ' F' H' env' T'} r' g rv => q v F' H' ⟨r'.bh, g.f, r'.fh, g.no⟩ rv
  refine hb ds x hR H F H _ _ _ r0 ⟨fun σ' F' H' env' T' r' g k hd => ?_, fun v σ' F' H' env' T' d r' g k rv hd => ?_, fun t σ' F' H' env' T' o r' g k ra nd hn dj hd => ?_, fun _ _ _ _ _ _ _ _ h => h.elim, fun _ _ _ _ _ _ _ _ h => h.elim⟩
  · have hd : x = .v .non := hd
    subst hd; exact fin r' g rfl
  · have hd : .v d = x := hd
    subst hd; exact fin r' g rv
  · have hd : .w o = x := hd
    subst hd; exact fin r' g ⟨t, rfl, ra, nd, fun a ha => ⟨(hn a ha).2, (hn a ha).1⟩⟩
theorem body_O {R : OD → List D → Res → OD → Prop} {t : TS} {N : List Str} (hb : ∀ o ds x o', R o ds x o' → St K M t (.own o :: (ds.map Slot.val ++ List.replicate (N.length - (ds.length + 1)) .no)) (RetO x o')) :
    ∀ (vs : List V) (H : Hp) (Q : VK) (E : XK), spO K R vs H Q E → t { nx := fun _ H' => Q .non H', rt := Q } (L2.start N vs) H := fun vs H Q E ⟨F, o, t0, ds, x, o', ws, ev, e, ra0, nd0, hn0, r, hR, q⟩ => by
  classical
  subst ev
  have hl : ws.length = ds.length := r.len
  unfold L2.start
  rw [List.length_cons, hl]
  let B : Hp := fun a => if a ∈ t0.fp then none else H a
  have hBp : ∀ a ∈ t0.fp, B a = none := fun a ha => if_pos ha
  have hB : ∀ a, a ∉ t0.fp → B a = H a := fun a ha => if_neg ha
  have r0 : RepS K B F H ((t0.v :: ws).map some ++ List.replicate (N.length - (ds.length + 1)) none) (.own o :: (ds.map Slot.val ++ List.replicate (N.length - (ds.length + 1)) .no)) (fun _ => t0) := by
    refine ⟨fun a u h => ?_, e, fun i d z => ?_, fun i u z => ?_, fun i j u w a z1 z2 _ _ => ?_, by simp [hl]⟩
    · by_cases ha : a ∈ t0.fp
      · rw [hBp a ha] at h; cases h
      · rw [hB a ha] at h; exact h
    · cases i with
      | zero => cases z
      | succ i => exact rep_start (H := H) (σ := []) _ i d r (by simpa using z)
    · cases i with
      | zero => cases z; exact ⟨rfl, ra0, nd0, fun a ha => ⟨hBp a ha, hn0 a ha⟩⟩
      | succ i => exact (no_own (by simpa using z)).elim
    · cases i with
      | zero => cases j with
        | zero => rfl
        | succ j => exact (no_own (by simpa using z2)).elim
      | succ i => exact (no_own (by simpa using z1)).elim
  have fin : ∀ {v : V} {σ' : L2.St} {F' H' : Hp} {env' : List Slot} {T' : Nat → AD}, RepS K B F' H' σ' env' T' → Gr B F F' → Keep M (fun _ => t0) T' → env'[0]? = some (Slot.own o') → ResOk K F' H' (fun a => B a = none ∧ a ∉ (T' 0).fp) x v → Q v H' := fun {v σ' F' H' env' T'} r' g k h0 rv => by
    obtain ⟨z1, z2, z3, z4⟩ := r'.own 0 o' h0
    have bn : ∀ a, B a = none → a ∈ t0.fp ∨ H a = none := fun a h => by
      by_cases ha : a ∈ t0.fp
      · exact .inl ha
      · rw [hB a ha] at h; exact .inr h
    refine q v F' H' (T' 0) k.z (fun a u ha h => r'.bh a u (by rw [hB a ha]; exact h)) g.f r'.fh (fun p h1 h2 h3 => g.no p h1 (by rw [hB p h3]; exact h2)) z2 z3 (fun a ha => ⟨(z4 a ha).2, bn a (z4 a ha).1⟩) ?_
    cases x with
    | v d => exact rv
    | w o => obtain ⟨t, y1, y2, y3, y4⟩ := rv; exact ⟨t, y1, y2, y3, fun a ha => ⟨(y4 a ha).1, bn a (y4 a ha).2.1, (y4 a ha).2.2⟩⟩
  refine hb o ds x o' hR B F H _ _ _ r0 ⟨fun σ' F' H' env' T' r' g k hd => ?_, fun v σ' F' H' env' T' d r' g k rv hd => ?_, fun t σ' F' H' env' T' o r' g k ra nd hn dj hd => ?_, fun _ _ _ _ _ _ _ _ h => h.elim, fun _ _ _ _ _ _ _ _ h => h.elim⟩
  · obtain ⟨hd, h0⟩ := hd
    subst hd; exact fin r' g k h0 rfl
  · obtain ⟨hd, h0⟩ := hd
    have hd : .v d = x := hd
    subst hd; exact fin r' g k h0 rv
  · obtain ⟨hd, h0⟩ := hd
    have hd : .w o = x := hd
    subst hd; exact fin r' g k h0 ⟨t, rfl, ra, nd, fun a ha => ⟨(hn a ha).2, (hn a ha).1, dj 0 o' a h0 ha⟩⟩
theorem spF_len {R : List D → Res → Prop} {n : Nat} (h : ∀ ds x, R ds x → ds.length = n) : ∀ (vs : List V) (H : Hp) (Q : VK) (E : XK), spF K R vs H Q E → vs.length = n := fun vs H Q E ⟨F, ds, x, e, r, hR, q⟩ => by rw [r.len]; exact h ds x hR
theorem spO_len {R : OD → List D → Res → OD → Prop} {n : Nat} (h : ∀ o ds x o', R o ds x o' → ds.length + 1 = n) : ∀ (vs : List V) (H : Hp) (Q : VK) (E : XK), spO K R vs H Q E → vs.length = n := by
  rintro _ H Q E ⟨F, o, t0, ds, x, o', ws, rfl, e, ra0, nd0, hn0, r, hR, q⟩
  rw [List.length_cons, r.len]; exact h o ds x o' hR
end Dm

set_option Elab.async false
set_option linter.all false
set_option maxRecDepth 100000
set_option maxHeartbeats 4000000
set_option autoImplicit false
/-! Dt: Python's steps as functions that may fail, over Lean's own types. -/
namespace Dm
open PySem L2 Evl StX PyProof.Rows
variable {K : PySem.W.Frag} {M : List Nat}
/-! ### ints -/
def pyMul (a b : Int) : Option Int := if a.natAbs.log2 + b.natAbs.log2 < 1000000 then some (a * b) else none
def pyDiv (a b : Int) : Option Int := if 0 < b ∧ b.natAbs.log2 < 9000 then some (a / b) else none
def pyMod (a b : Int) : Option Int := if 0 < b then some (a % b) else none
def pyPow (a b : Int) : Option Int := if 0 ≤ b ∧ (Builtin.Int.intBits a : Int) * b ≤ 2 ^ 27 then some (a ^ b.toNat) else none
def pyStr (a : Int) : Option Str := if a.natAbs.log2 < 1920 then some (Str.ofString (toString a)) else none
def pyInt (z : Str) : Option Int := if z.length ≤ 640 then PySem.intText? z else none
theorem ty_mul {a b c : Int} (h : pyMul a b = some c) : R2D K (uMul K) (.int a) (.int b) (.int c) := by
  unfold pyMul at h; split at h
  · rename_i h1; cases h; exact d_mul h1
  · cases h
theorem ty_div {a b c : Int} (h : pyDiv a b = some c) : R2D K uDiv (.int a) (.int b) (.int c) := by
  unfold pyDiv at h; split at h
  · rename_i h1; cases h; exact d_div h1.1 h1.2
  · cases h
theorem ty_mod {a b c : Int} (h : pyMod a b = some c) : R2D K uMod (.int a) (.int b) (.int c) := by
  unfold pyMod at h; split at h
  · rename_i h1; cases h; exact d_mod h1
  · cases h
theorem ty_pow {a b c : Int} (h : pyPow a b = some c) : R2D K uPow (.int a) (.int b) (.int c) := by
  unfold pyPow at h; split at h
  · rename_i h1; cases h; exact d_pow h1.1 h1.2
  · cases h
theorem ty_str {a : Int} {z : Str} (h : pyStr a = some z) : RAD K rStrI [.int a] (.str z) := by
  unfold pyStr at h; split at h
  · rename_i h1; cases h; exact d_str h1
  · cases h
theorem ty_intS {z : Str} {a : Int} (h : pyInt z = some a) : RAD K uInt [.str z] (.int a) := by
  unfold pyInt at h; split at h
  · rename_i h1; exact d_intS h h1
  · cases h
/-! ### texts -/
def pyCatS (a b : Str) : Option Str := if a.length + b.length ≤ 1000000 then some (a ++ b) else none
def pyLenS (a : Str) : Option Int := if a.length ≤ 100000 then some (a.length : Int) else none
def pyIxS (z : Str) (i : Int) : Option Str := if z.length ≤ 100000 then (atI z.cps.toList i).map fun c => ⟨#[c]⟩ else none
def pySlS (z : Str) (lo hi : Option Int) : Option Str := if z.length ≤ 100000 then some (cutS z lo hi) else none
def pySgIn (x z : Str) : Option Bool := match x.cps.toList with
  | [c] => some (decide (c ∈ z.cps.toList))
  | _ => none
def pySplit (x y : Str) : Option (List Str) := if (y.length == 0) = false ∧ x.length ≤ 90000 then some (Txt.split x y) else none
def pyJoin (x : Str) (ys : List Str) : Option Str := if (ys.map (·.length)).sum + ys.length * x.length ≤ 16777216 then some (Txt.join x ys) else none
theorem ty_addS {a b c : Str} (h : pyCatS a b = some c) : R2D K (uAdd K) (.str a) (.str b) (.str c) := by
  unfold pyCatS at h; split at h
  · rename_i h1; cases h; exact d_addS h1
  · cases h
theorem ty_lenS {a : Str} {n : Int} (h : pyLenS a = some n) : RAD K (uLen K) [.str a] (.int n) := by
  unfold pyLenS at h; split at h
  · rename_i h1; cases h; exact d_lenS h1
  · cases h
theorem ty_ixS {z : Str} {i : Int} {x : Str} (h : pyIxS z i = some x) : R2D K (uIx K) (.str z) (.int i) (.str x) := by
  unfold pyIxS at h; split at h
  · rename_i h1
    obtain ⟨c, hc, rfl⟩ := Option.map_eq_some_iff.mp h
    exact d_ixS h1 hc
  · cases h
theorem one_sign {x : Str} {c : Nat} (h : x.cps.toList = [c]) : x = ⟨#[c]⟩ := by
  cases x with
  | mk a =>
    have : a = #[c] := by rw [← Array.toArray_toList (xs := a)]; exact congrArg List.toArray h
    rw [this]
theorem ty_inG {x z : Str} {b : Bool} (h : pySgIn x z = some b) : R2D K (uIn K) (.str x) (.str z) (.bl b) := by
  unfold pySgIn at h; split at h
  · rename_i c hc; cases h; rw [one_sign hc]; exact d_inG
  · cases h
theorem ty_niG {x z : Str} {b : Bool} (h : pySgIn x z = some b) : R2D K (uNi K) (.str x) (.str z) (.bl (!b)) := by
  unfold pySgIn at h; split at h
  · rename_i c hc; cases h; rw [one_sign hc]; exact d_niG
  · cases h
/-! ### lists, tuples -/
def pyIx {α : Type} (xs : List α) (i : Int) : Option α := atI xs i
def pyCat {α : Type} (xs ys : List α) : Option (List α) := if xs.length + ys.length ≤ 100000 then some (xs ++ ys) else none
def pySz {α : Type} (xs : List α) : Option (List α) := if xs.length ≤ 100000 then some xs else none
theorem atI_map {α β : Type} (f : α → β) (xs : List α) (i : Int) : atI (xs.map f) i = (atI xs i).map f := by
  unfold atI
  rw [List.length_map]
  cases ixN xs.length i with
  | none => rfl
  | some j => exact List.getElem?_map
section
variable {α β : Type} {φ : α → D} {ψ : β → D} {xs ys zs : List α} {x y : α}
theorem ty_ixL {i : Int} (h : pyIx xs i = some x) : R2D K (uIx K) (.lst (xs.map φ)) (.int i) (φ x) := d_ixL (by rw [atI_map, show atI xs i = some x from h]; rfl)
theorem ty_ixT {i : Int} (h : pyIx xs i = some x) : R2D K (uIx K) (.tup (xs.map φ)) (.int i) (φ x) := d_ixT (by rw [atI_map, show atI xs i = some x from h]; rfl)
theorem ty_ixR {ns : List Int} {i n : Int} (h : pyIx ns i = some n) : R2D K (uIx K) (.scr ns) (.int i) (.int n) := d_ixR h
theorem ty_addL (h : pyCat xs ys = some zs) : R2D K (uAdd K) (.lst (xs.map φ)) (.lst (ys.map φ)) (.lst (zs.map φ)) := by
  unfold pyCat at h; split at h
  · rename_i h1; cases h; rw [List.map_append]; exact d_addL (by rw [List.length_map, List.length_map]; exact h1)
  · cases h
theorem ty_addT (h : pyCat xs ys = some zs) : R2D K (uAdd K) (.tup (xs.map φ)) (.tup (ys.map φ)) (.tup (zs.map φ)) := by
  unfold pyCat at h; split at h
  · rename_i h1; cases h; rw [List.map_append]; exact d_addT (by rw [List.length_map, List.length_map]; exact h1)
  · cases h
theorem ty_lenL : RAD K (uLen K) [.lst (xs.map φ)] (.int (xs.length : Nat)) := by
  have := d_lenL (K := K) (ds := xs.map φ); rwa [List.length_map] at this
theorem ty_lenT : RAD K (uLen K) [.tup (xs.map φ)] (.int (xs.length : Nat)) := by
  have := d_lenT (K := K) (ds := xs.map φ); rwa [List.length_map] at this
def pyMax (ns : List Int) : Option Int := if ns ≠ [] then some (mxL ns) else none
def pyMin (ns : List Int) : Option Int := if ns ≠ [] then some (mnL ns) else none
theorem ty_max {ns : List Int} {n : Int} (h : pyMax ns = some n) : RAD K (uMax K) [.lst (ns.map .int)] (.int n) := by
  unfold pyMax at h; split at h
  · rename_i h1; cases h; exact d_max h1
  · cases h
theorem ty_min {ns : List Int} {n : Int} (h : pyMin ns = some n) : RAD K (uMin K) [.lst (ns.map .int)] (.int n) := by
  unfold pyMin at h; split at h
  · rename_i h1; cases h; exact d_min h1
  · cases h
def pyIndex {α : Type} [DecidableEq α] (xs : List α) (x : α) : Option Int := if x ∈ xs then some (xs.idxOf x : Int) else none
variable {env env1 env2 env3 : List Slot} {te ta tb : TE}
theorem ev_indexT {ns : List Int} {x n : Int} (ho : Ev K M ta env (.lst (ns.map .int)) env1) (he : Ev K M te env1 (.int x) env2) (h : pyIndex ns x = some n) : Ev K M (tBM K "list" (rIndex K) ta (tCons te tNil)) env (.int n) env2 := by
  unfold pyIndex at h; split at h
  · rename_i h1; cases h; exact ev_indexI ho he h1
  · cases h
theorem ev_slLT {tl th : TO} {lo hi : Option Int} (he : Ev K M te env (.lst (xs.map φ)) env1) (hl : EvO K M tl env1 lo env2) (hh : EvO K M th env2 hi env3) : Ev K M (tSl (uSl K) te tl th) env (.lst ((cutL xs lo hi).map φ)) env3 := by
  rw [← cutL_map]; exact ev_slL he hl hh
theorem ev_slTT {tl th : TO} {lo hi : Option Int} (he : Ev K M te env (.tup (xs.map φ)) env1) (hl : EvO K M tl env1 lo env2) (hh : EvO K M th env2 hi env3) : Ev K M (tSl (uSl K) te tl th) env (.tup ((cutL xs lo hi).map φ)) env3 := by
  rw [← cutL_map]; exact ev_slT he hl hh
theorem ev_slST {tl th : TO} {z w : Str} {lo hi : Option Int} (he : Ev K M te env (.str z) env1) (hl : EvO K M tl env1 lo env2) (hh : EvO K M th env2 hi env3) (h : pySlS z lo hi = some w) : Ev K M (tSl (uSl K) te tl th) env (.str w) env3 := by
  unfold pySlS at h; split at h
  · rename_i h1; cases h; exact ev_slS he hl hh h1
  · cases h
theorem ev_splitT {x y : Str} {ws : List Str} (ha : Ev K M te env (.str x) env1) (hb : Ev K M tb env1 (.str y) env2) (h : pySplit x y = some ws) : Ev K M (tM1 rSplit te tb) env (.lst (ws.map .str)) env2 := by
  unfold pySplit at h; split at h
  · rename_i h1; cases h; exact ev_split ha hb h1.1 h1.2
  · cases h
theorem ev_joinT {x : Str} {ys : List Str} {w : Str} (ha : Ev K M te env (.str x) env1) (hb : Ev K M tb env1 (.lst (ys.map .str)) env2) (h : pyJoin x ys = some w) : Ev K M (tM1 (rJoin K) te tb) env (.str w) env2 := by
  unfold pyJoin at h; split at h
  · rename_i h1; cases h; exact ev_join ha hb h1
  · cases h
/-! ### displays: of so many of one kind -/
theorem ev_lstT {ta : TA} {ds : List D} (ha : EvA K M ta env ds env1) (h : pySz xs = some ys) (e : ds = xs.map φ) : Ev K M (tLst ta) env (.lst (ys.map φ)) env1 := by
  subst e
  unfold pySz at h; split at h
  · rename_i h1; cases h; exact ev_lst ha (by rw [List.length_map]; exact h1)
  · cases h
theorem ev_tupT {ta : TA} {ds : List D} (ha : EvA K M ta env ds env1) (h : pySz xs = some ys) (e : ds = xs.map φ) : Ev K M (tTup ta) env (.tup (ys.map φ)) env1 := by
  subst e
  unfold pySz at h; split at h
  · rename_i h1; cases h; exact ev_tup ha (by rw [List.length_map]; exact h1)
  · cases h
/-- one's own list of data -/
abbrev odL {α : Type} (φ : α → D) (xs : List α) : OD := .lst (xs.map fun a => .val (φ a))
theorem odL_eq : (.lst ((xs.map φ).map .val) : OD) = odL φ xs := by rw [List.map_map]; rfl
theorem fz_odL : (odL φ xs).fz = .lst (xs.map φ) := by rw [← odL_eq, OD.fz, fzs_val]
theorem ew_lstT {ta : TA} {ds : List D} (ha : EvA K M ta env ds env1) (h : pySz xs = some ys) (e : ds = xs.map φ) : EvW K M (tLst ta) env (odL φ ys) env1 := by
  subst e
  unfold pySz at h; split at h
  · rename_i h1; cases h
    exact ew_is (ew_lst ha (by rw [List.length_map]; exact h1)) odL_eq
  · cases h
theorem ev_fzT (h : EvW K M te env (odL φ xs) env1) : Ev K M te env (.lst (xs.map φ)) env1 := ev_is (ev_fz h) fz_odL
theorem ev_giveT {i : Nat} (hi : env[i]? = some (.own (odL φ xs))) : Ev K M (tVar i) env (.lst (xs.map φ)) (env.set i .no) := ev_is (ev_give hi) fz_odL
/-! ### comprehensions -/
theorem ew_lcT {wi : TI} {g : TG} {tt : TT} {vs : List Nat} {Wp : (Nat → AD) → List Slot → (Nat → AD) → Prop} {l : List α} {c : α → Option Bool} {v : α → Option β} {ys : List β} (h : It K M wi env (l.map φ) env1 Wp) (hf : lcM c v l = some ys) (hw : ∀ T0, Wp T0 (wipeE env1 vs) T0) (hb : freeB vs env1 = true)
    (hs : ∀ a, a ∈ l → Turn1 K g tt te vs (φ a) env1 (c a) ((v a).map ψ)) : EvW K M (tLc wi g tt te vs) env (odL ψ ys) env1 := ew_is (ew_lcM h hf hw hb hs) odL_eq
/-- a turn -/
theorem turn1 {g : TG} {tt : TT} {vs : List Nat} {d : D} {e e' : List Slot} {c : Option Bool} {v : Option β} (hg : GD K g vs d (wipeE e vs) e') (hc : ∀ b, c = some b → EvT K [] tt e' b e') (hv : ∀ y, c = some true → v = some y → Ev K [] te e' (ψ y) e') : Turn1 K g tt te vs d e c (v.map ψ) :=
  ⟨e', hg, hc, fun y h1 h2 => by obtain ⟨z, h3, rfl⟩ := Option.map_eq_some_iff.mp h2; exact hv z h1 h3⟩
/-- whose turns change one's own -/
theorem ew_lcST {σt : Type} {wi : TI} {g : TG} {tt : TT} {vs : List Nat} {Wp : (Nat → AD) → List Slot → (Nat → AD) → Prop} {l : List α} {J : σt → List Slot} {f : α → σt → Option (Option β × σt)} {s0 s1 : σt} {ys : List β} {M' : List Nat} (h : It K M wi env (l.map φ) env1 Wp) (hf : lcS f l s0 = some (ys, s1)) (hM : ∀ j ∈ M', j ∈ M) (h0 : env1 = J s0)
    (hw : ∀ T0 T s, Keep M' T0 T → Wp T0 (wipeE (J s) vs) T) (hv : ∀ s s' (i : Nat) (d : D), (J s)[i]? = some (Slot.val d) → (J s')[i]? = some (Slot.val d)) (hlen : ∀ s s', (J s).length = (J s').length)
    (hs : ∀ a, a ∈ l → ∀ s p, f a s = some p → Turn K M' g tt te vs (φ a) (J s) (p.1.map ψ) (J p.2)) : EvW K M (tLc wi g tt te vs) env (odL ψ ys) (J s1) := ew_is (ew_lcS h hf hM h0 hw hv hlen hs) odL_eq
/-! ### what is walked -/
def pyRng (n : Int) : Option (List Int) := if n < 2 ^ 60 ∧ -(2 ^ 60) < n then some (rngI n) else none
def pyRng2 (lo n : Int) : Option (List Int) := if n < 2 ^ 60 ∧ -(2 ^ 60) < n ∧ lo < 2 ^ 60 ∧ -(2 ^ 60) < lo then some (rngI2 lo n) else none
theorem it_rng {ta : TA} {n : Int} {l : List Int} (h : EvA K M ta env [.int n] env1) (hr : pyRng n = some l) : It K M (iRng1 ta) env (l.map .int) env1 Free := by
  unfold pyRng at hr; split at hr
  · rename_i h1; cases hr; exact it_r1 h h1.1 h1.2
  · cases hr
theorem it_rng2 {ta : TA} {lo n : Int} {l : List Int} (h : EvA K M ta env [.int lo, .int n] env1) (hr : pyRng2 lo n = some l) : It K M (iRng2 ta) env (l.map .int) env1 Free := by
  unfold pyRng2 at hr; split at hr
  · rename_i h1; cases hr; exact it_r2 h h1.1 h1.2.1 h1.2.2.1 h1.2.2.2
  · cases hr
def enumI {α : Type} (xs : List α) : List (Int × α) := xs.zipIdx.map fun p => ((p.2 : Int), p.1)
theorem enum_map : (enumI xs).map (fun p => D.tup [.int p.1, φ p.2]) = ((xs.map φ).zipIdx).map fun p => D.tup [.int (p.2 : Nat), p.1] := by
  rw [enumI, List.map_map, List.zipIdx_map, List.map_map]; rfl
theorem it_enL {ta : TA} (h : EvA K M ta env [.lst (xs.map φ)] env1) : It K M (iEn K ta) env ((enumI xs).map fun p => D.tup [.int p.1, φ p.2]) env1 Free := by
  rw [enum_map]; exact it_en h (.inl rfl)
theorem it_enT {ta : TA} (h : EvA K M ta env [.tup (xs.map φ)] env1) : It K M (iEn K ta) env ((enumI xs).map fun p => D.tup [.int p.1, φ p.2]) env1 Free := by
  rw [enum_map]; exact it_en h (.inr rfl)
theorem zip_mapT {ws : List β} : (xs.zip ws).map (fun p => D.tup [φ p.1, ψ p.2]) = ((xs.map φ).zip (ws.map ψ)).map fun p => D.tup [p.1, p.2] := by
  rw [List.zip_map, List.map_map]; rfl
theorem it_zpT {ta : TA} {d1 d2 : D} {ws : List β} (h : EvA K M ta env [d1, d2] env1) (h1 : SeqD d1 (xs.map φ)) (h2 : SeqD d2 (ws.map ψ)) : It K M (iZp K ta) env ((xs.zip ws).map fun p => D.tup [φ p.1, ψ p.2]) env1 Free := by
  rw [zip_mapT]; exact it_zp h h1 h2
end
/-! ### list(range(n)) -/
def pyLRng (n : Int) : Option (List Int) := if 0 ≤ n ∧ n ≤ 100000 then some (rngI n) else none
theorem ev_lstRgT {te : TE} {env env1 : List Slot} {n : Int} {l : List Int} (h : Ev K M te env (.int n) env1) (hr : pyLRng n = some l) : Ev K M (tLstRg (tRg1 te)) env (.lst (l.map .int)) env1 := by
  unfold pyLRng at hr; split at hr
  · rename_i h1; cases hr; exact ev_lstRg h h1.1 h1.2
  · cases hr
/-! ### == of data -/
def pyEq (x y : D) : Option Bool := if (x.pure && y.pure && SeqAt.shaped x.py && SeqAt.shaped y.py) = true then some (PyData.eqv x.py y.py) else none
theorem ty_eq {x y : D} {b : Bool} (h : pyEq x y = some b) : R2D K (uEq K) x y (.bl b) := by
  unfold pyEq at h; split at h
  · rename_i h1
    simp only [Bool.and_eq_true] at h1
    cases h; exact d_eqD h1.1.1.1 h1.1.1.2 h1.1.2 h1.2
  · cases h
theorem ty_ne {x y : D} {b : Bool} (h : pyEq x y = some b) : R2D K (uNe K) x y (.bl (!b)) := by
  unfold pyEq at h; split at h
  · rename_i h1
    simp only [Bool.and_eq_true] at h1
    cases h; exact d_neD h1.1.1.1 h1.1.1.2 h1.1.2 h1.2
  · cases h
/-! ### None or a thing -/
def optD {α : Type} (φ : α → D) : Option α → D
  | none => .non
  | some a => φ a
theorem ty_isN {α : Type} {φ : α → D} {o : Option α} (h : ∀ a, (φ a).isN = false) : R2D K uIs (optD φ o) .non (.bl o.isNone) := by
  have := d_isN (K := K) (a := optD φ o)
  cases o with
  | none => exact this
  | some a => rw [show (optD φ (some a)).isN = false from h a] at this; exact this
theorem ty_ntN {α : Type} {φ : α → D} {o : Option α} (h : ∀ a, (φ a).isN = false) : R2D K uNt (optD φ o) .non (.bl o.isSome) := by
  have := d_ntN (K := K) (a := optD φ o)
  cases o with
  | none => exact this
  | some a => rw [show (optD φ (some a)).isN = false from h a] at this; exact this
/-! ### branches that may fail -/
section
variable {env env1 env2 : List Slot} {te ta tb : TE} {t u : TT} {d : D}
theorem ev_andO {a c : Bool} {B : Option Bool} (h1 : Ev K M ta env (.bl a) env1) (h : (if a = true then B else some false) = some c) (h2 : a = true → B = some c → Ev K M tb env1 (.bl c) env1) : Ev K M (tAndV ta tb) env (.bl c) env1 := by
  cases a with
  | true => exact ev_is (ev_andV h1 fun e => h2 e h) (by simp)
  | false => cases h; exact ev_andV (y := false) h1 fun e => nomatch e
theorem ev_orO {a c : Bool} {B : Option Bool} (h1 : Ev K M ta env (.bl a) env1) (h : (if a = true then some true else B) = some c) (h2 : a = false → B = some c → Ev K M tb env1 (.bl c) env1) : Ev K M (tOrV ta tb) env (.bl c) env1 := by
  cases a with
  | false => exact ev_is (ev_orV h1 fun e => h2 e h) (by simp)
  | true => cases h; exact ev_orV (y := true) h1 fun e => nomatch e
theorem et_andO {a c : Bool} {B : Option Bool} (h1 : EvT K M t env a env1) (h : (if a = true then B else some false) = some c) (h2 : a = true → B = some c → EvT K M u env1 c env1) : EvT K M (tAnd t u) env c env1 := by
  cases a with
  | true => exact et_is (et_and h1 fun e => h2 e h) (by simp)
  | false => cases h; exact et_and (y := false) h1 fun e => nomatch e
theorem et_orO {a c : Bool} {B : Option Bool} (h1 : EvT K M t env a env1) (h : (if a = true then some true else B) = some c) (h2 : a = false → B = some c → EvT K M u env1 c env1) : EvT K M (tOr t u) env c env1 := by
  cases a with
  | false => exact et_is (et_or h1 fun e => h2 e h) (by simp)
  | true => cases h; exact et_or (y := true) h1 fun e => nomatch e
theorem ev_ifO {α : Type} {φ : α → D} {a : Bool} {A B : Option α} {x : α} (h0 : EvT K M t env a env1) (h : (if a = true then A else B) = some x) (h1 : a = true → A = some x → Ev K M ta env1 (φ x) env2) (h2 : a = false → B = some x → Ev K M tb env1 (φ x) env2) : Ev K M (tIf t ta tb) env (φ x) env2 := by
  cases a with
  | true => exact ev_if h0 (fun _ => h1 rfl h) fun e => nomatch e
  | false => exact ev_if h0 (fun e => nomatch e) fun _ => h2 rfl h
end
/-! ### one's own lists, changed -/
section
variable {env env1 env2 : List Slot} {te ta tb tk tx : TE} {i : Nat} {o : OD} {π : List Nat} {α β : Type} {φ : α → D} {xs ys zs : List α} {x : α} {M' : List Nat} {P : Post}
def pyApp {α : Type} (xs : List α) (x : α) : Option (List α) := if xs.length < 100000 then some (xs ++ [x]) else none
def pyExt {α : Type} (xs ys : List α) : Option (List α) := if xs.length + ys.length ≤ 100000 then some (xs ++ ys) else none
def pySetL {α : Type} (xs : List α) (k : Int) (x : α) : Option (List α) := match ixN xs.length k with
  | some j => if j < xs.length then some (xs.set j x) else none
  | none => none
def pyPop {α : Type} (xs : List α) (k : Int) : Option (α × List α) := if -(2 ^ 63) ≤ k ∧ k < 2 ^ 63 then match seqIndex? k xs.length with
  | some j => (xs[j]?).map fun x => (x, xs.eraseIdx j)
  | none => none
  else none
theorem st_appT (hp : Pl K te env i π) (hx : Ev K M' tx env (φ x) env1) (h : pyApp xs x = some ys) (hM : Sub M' M) (hi' : i ∉ M') (hiM : i ∈ M) (hi0 : env[i]? = some (.own o)) (ho0 : o.at π = some (odL φ xs)) (hi : env1[i]? = some (.own o))
    (k : P.n (env1.set i (.own (o.put π (odL φ ys))))) : St K M (tDrop (tBM K "list" rAppend te (tCons tx tNil))) env P := by
  unfold pyApp at h; split at h
  · rename_i h1; cases h
    refine st_appP hp hx hM hi' hiM hi0 ho0 hi (by rw [List.length_map]; exact h1) ?_
    simpa [odL] using k
  · cases h
theorem st_extT (hp : Pl K te env i π) (hx : Ev K M' tx env (.lst (zs.map φ)) env1) (h : pyExt xs zs = some ys) (hM : Sub M' M) (hi' : i ∉ M') (hiM : i ∈ M) (hi0 : env[i]? = some (.own o)) (ho0 : o.at π = some (odL φ xs)) (hi : env1[i]? = some (.own o))
    (k : P.n (env1.set i (.own (o.put π (odL φ ys))))) : St K M (tDrop (tBM K "list" rExtend te (tCons tx tNil))) env P := by
  unfold pyExt at h; split at h
  · rename_i h1; cases h
    refine st_extP hp hx hM hi' hiM hi0 ho0 hi (by rw [List.length_map, List.length_map]; exact h1) ?_
    have e : (xs.map fun a => OD.val (φ a)) ++ (zs.map φ).map OD.val = (xs ++ zs).map fun a => OD.val (φ a) := by rw [List.map_map, List.map_append]; rfl
    rw [e]; exact k
  · cases h
theorem st_setLT {k : Int} (hx : Ev K M' tx env (φ x) env1) (hM : Sub M' M) (hiM : i ∈ M) (hp : Pl K te env1 i π) (hi : env1[i]? = some (.own o)) (ho : o.at π = some (odL φ xs)) (hk : Ev K [] tk env1 (.int k) env1) (h : pySetL xs k x = some ys)
    (kk : P.n (env1.set i (.own (o.put π (odL φ ys))))) : St K M (tAsg tx (gSub te tk uSet)) env P := by
  unfold pySetL at h; split at h
  · rename_i j hj; split at h
    · rename_i h1; cases h
      refine st_setLP hx hM hiM hp hi ho hk (by rw [List.length_map]; exact hj) (by rw [List.length_map]; exact h1) ?_
      simpa [odL, List.map_set] using kk
    · cases h
  · cases h
theorem ev_popT {k : Int} (hp : Pl K te env i π) (hx : Ev K M' tk env (.int k) env1) (h : pyPop xs k = some (x, ys)) (hM : Sub M' M) (hi' : i ∉ M') (hiM : i ∈ M) (hi0 : env[i]? = some (.own o)) (hi : env1[i]? = some (.own o)) (ho : o.at π = some (odL φ xs)) :
    Ev K M (tBM K "list" rPopAt te (tCons tk tNil)) env (φ x) (env1.set i (.own (o.put π (odL φ ys)))) := by
  unfold pyPop at h; split at h
  · rename_i hk; split at h
    · rename_i j hj
      obtain ⟨z, hz, e⟩ := Option.map_eq_some_iff.mp h
      cases e
      have := ev_popAt hp hx hM hi' hiM hi0 hi ho hk (by rw [List.length_map]; exact hj) (d := φ x) (by rw [List.getElem?_map, hz]; rfl)
      have em : (xs.map fun a => OD.val (φ a)).eraseIdx j = (xs.eraseIdx j).map fun a => OD.val (φ a) := by simp [List.eraseIdx_eq_take_drop_succ, List.map_take, List.map_drop]
      rw [em] at this
      exact this
    · cases h
  · cases h
theorem pl_ixLT {k : Int} (hp : Pl K te env i π) (hi : env[i]? = some (.own o)) (ho : o.at π = some (odL φ xs)) (hk : Ev K [] tk env (.int k) env) (h : pyIx xs k = some x) : Ev K M (tOp (uIx K) te tk) env (φ x) env := by
  unfold pyIx atI at h
  cases hj : ixN xs.length k with
  | none => rw [hj] at h; cases h
  | some j =>
    rw [hj] at h
    have h : xs[j]? = some x := h
    have hl := (List.getElem?_eq_some_iff.mp h).1
    refine ev_leaf (pl_ixL hp hi ho hk (by rw [List.length_map]; exact hj) (by rw [List.length_map]; exact hl)) hi ?_
    rw [od_at_snoc π _ _ j ho]
    show (xs.map fun a => OD.val (φ a))[j]? = _
    rw [List.getElem?_map, h]; rfl
end
end Dm
namespace Dm
open PySem L2 Evl StX PyProof.Rows
variable {K : PySem.W.Frag} {M : List Nat}
/-- joining behind an if -/
abbrev PoN (J : List Slot) (P : Post) : Post := { P with n := fun e => Wk e J }
theorem q_ifJ {env env1 J : List Slot} {P : Post} {u w z : TS} {tt : TT} {x : Bool} (h : EvT K M tt env x env1) (h1 : x = true → St K M u env1 (PoN J P)) (h2 : x = false → St K M w env1 (PoN J P)) (k : St K M z J P) : St K M (tSeq (tIfS tt u w) z) env P :=
  q (st_mono (P' := PoN J P) (st_if h h1 h2) (fun e w => st_weak w k) (fun _ _ h => h) (fun _ h => h) (fun _ h => h))
def fuel : Nat := 1000000000
theorem whL_mono {σ : Type} {cond : σ → Option Bool} {body : σ → Option σ} : ∀ {n m : Nat} {s s1 : σ}, whL cond body n s = some s1 → n ≤ m → whL cond body m s = some s1
  | 0, _, s, s1, h, _ => by rw [whL] at h; cases h
  | n + 1, 0, s, s1, h, hm => by omega
  | n + 1, m + 1, s, s1, h, hm => by
    rw [whL] at h ⊢
    obtain ⟨b, hb, h⟩ := Option.bind_eq_some_iff.mp h
    rw [hb, Option.bind_some]
    cases b with
    | true =>
      rw [if_pos rfl] at h ⊢
      obtain ⟨s', h1, h2⟩ := Option.bind_eq_some_iff.mp h
      rw [h1, Option.bind_some]
      exact whL_mono h2 (by omega)
    | false => rw [if_neg Bool.false_ne_true] at h ⊢; exact h
end Dm

set_option Elab.async false
set_option linter.all false
set_option maxRecDepth 100000
set_option maxHeartbeats 4000000
set_option autoImplicit false
/-! Dd2: defs, classes, constants of the module as rules; their facts at the top. -/
namespace L2
open PySem PySem.Spec PyProof.Rows
/-- of tuples: what comes of it is some arrangement, by their lengths -/
def rSortLen (K : PySem.W.Frag) : V → Hp → VK → Prop := fun x H Q => ∃ (a : Addr) (xs : List V) (ns : List Nat), x = .ref a ∧ SqL K H a xs ∧ xs.length = ns.length ∧ (∀ y ∈ xs.zip ns, ∃ t ys, y.1 = .ref t ∧ SqT K H t ys ∧ ys.length = y.2) ∧
  ∀ (p : Addr), H p = none → Q (.ref p) (upd H p (.lst (((xs.zip ns).mergeSort fun a b => decide (a.2 ≤ b.2)).map Prod.fst)))
def tSortLen (K : PySem.W.Frag) (ta : TA) : TE := fun σ H Q => ta σ H fun vs H1 => ∃ x, vs = [x] ∧ rSortLen K x H1 Q
section
variable {X : Cx} {p p2 pos kpos : Pos} {e : Expr} {ta : TA}
theorem each_of_vals : ∀ {xs : List V} {us : List Value}, Vals xs us → PySem.W.EachIs (fun u x => RelV x u) us xs
  | _, _, .nil => .nil
  | _, _, .cons r t => .cons r (each_of_vals t)
theorem vals_of_each : ∀ {xs : List V} {us : List Value}, PySem.W.EachIs (fun u x => RelV x u) us xs → Vals xs us
  | _, _, .nil => .nil
  | _, _, .cons r t => .cons r (vals_of_each t)
theorem each_zip : ∀ {xs : List V} {us : List Value} {ns : List Nat}, xs.length = ns.length → PySem.W.EachIs (fun u x => RelV x u) us xs → PySem.W.EachIs (fun u (x : V × Nat) => RelV x.1 u) us (xs.zip ns)
  | _, _, ns, h, .nil => by cases ns with
    | nil => exact .nil
    | cons _ _ => simp at h
  | _, _, n :: ns, h, .cons r t => .cons r (each_zip (by simpa using h) t)
  | _, _, [], h, .cons r t => by simp at h
theorem vals_fst : ∀ {xs : List (V × Nat)} {us : List Value}, PySem.W.EachIs (fun u (x : V × Nat) => RelV x.1 u) us xs → Vals (xs.map Prod.fst) us
  | _, _, .nil => .nil
  | _, _, .cons r t => .cons r (vals_fst t)
theorem pe_sortLen (hg : Gl X ("sorted" : Str)) (hm : X.mg "sorted" = none) (hg2 : Gl X ("len" : Str)) (hm2 : X.mg "len" = none) (hu : X.A.units + 64 < cLine) (ha : PA X [e] ta)
    (he : backTo pos (starEach [e] X.env) = (false, eval e X.env) :: backTo pos (starEach [] X.env) := by rfl) (hpl : (backTo pos (starEach [e] X.env)).any (·.1) = false := by rfl) :
    PE X (.Call (.Name "sorted" p) [e] [⟨some "key", .Name "len" p2, kpos⟩] pos) (tSortLen X.K ta) := by
  refine ⟨fun pins s σ H Q I h => ?_⟩
  refine wpAny_Call_Name_kw (ld_blt I hg hm (u := .builtin "sorted") (by decide +kernel) ?_)
  refine PyProof.Rows.callWith_kw (thn (ha.run pos pins s σ H _ I h) fun us s1 ⟨vs, H1, I1, r1, x, ex, q1⟩ => ?_) he hpl rfl rfl
  · subst ex
    obtain ⟨a, xs, ns, rfl, hs, hxn, hy, q⟩ := q1
    obtain rfl := Vals.ref1 r1
    refine wpAny_evalAll_cons (wpAny_bind (ld_blt I1 hg2 hm2 (u := .builtin "len") (by decide +kernel) (wpAny_bind (wpAny_standAt (wpAny_pure (wpAny_evalAll_nil ?_))))))
    obtain ⟨its, rv, hl, hz⟩ := I1.list hs
    have hbl : (xs.zip ns).length = xs.length := by rw [List.length_zip]; omega
    have hdl : (PySem.W.dataLe false fun x : V × Nat => .int (x.2 : Nat)) = fun a b => decide (a.2 ≤ b.2) := by
      rw [PySem.W.dataLe_int]
      funext a b
      rw [decide_eq_decide]; omega
    refine PySem.W.sorted_key_data (b := false) (R := fun u x => RelV x.1 u) (bs := xs.zip ns) (fun x => .int (x.2 : Nat)) hl.isList (each_zip hxn (each_of_vals rv)) ?_ ?_ (by rw [hbl]; exact hz) ?_ (ksk_s1 _ _) (fun _ => ksk_l1 _ _) (fun _ => ksk_t4 _ _) ?_ ?_
    · intro d hd d' hd'
      obtain ⟨x, _, rfl⟩ := List.mem_map.mp hd
      obtain ⟨x', _, rfl⟩ := List.mem_map.mp hd'
      rfl
    · right
      intro d hd
      obtain ⟨x, _, rfl⟩ := List.mem_map.mp hd
      exact ⟨by simp, by simp⟩
    · intro x hx
      show _ + 2 + PyData.depth (.int _) < _
      have : PyData.depth (.int (x.2 : Nat)) ≤ 1 := by first | exact Nat.le_refl _ | exact Nat.zero_le _ | (unfold PyData.depth; omega) | simp [PyData.depth]
      omega
    · intro v x hR hx h tk kp
      obtain ⟨t, ys, hx1, hy1, hy2⟩ := hy x hx
      rw [hx1] at hR
      obtain rfl : v = Value.ref t := hR
      obtain ⟨its2, rv2, pl2, hz2⟩ := I1.tuple hy1
      have hn := line63
      have hlen := rv2.length
      have pl3 : IsTup h t its2.toArray := by
        obtain ⟨o, ho, hc, n, hd⟩ := pl2
        exact ⟨o, kp _ _ ho, hc, n, hd⟩
      refine len_tuple (s := { s1 with heap := h, toks := tk }) pl3 (by simp only [List.size_toArray] <;> omega) ⟨h, tk + 1 + 1, rfl, fun _ _ z => z, ?_⟩
      have e1 : (its2.toArray.size : Int) = (x.2 : Int) := by rw [List.size_toArray, ← hlen, hy2]
      rw [e1]
      exact .int _ _
    · intro out c h' tk kp fr hd hl2 he2
      rw [hdl] at he2
      have hlen2 : (((xs.zip ns).mergeSort fun a b => decide (a.2 ≤ b.2)).map Prod.fst).length ≤ sizeLine := by rw [List.length_map, List.length_mergeSort, hbl]; exact hz
      exact ⟨.ref _, upd H1 (s1.heap.objs.size + 1) (.lst _), I1.laid (t' := tk) kp (Nat.le_succ _) ⟨hlen2, _, c, vals_fst he2, hd⟩, rfl, q _ (I1.hok.fresh (Nat.le_succ _))⟩
end
end L2
namespace Dm
open PySem L2 Evl StX PyProof.Rows
/-- a def of the module that stands under x and keeps sp -/
structure Df (P : Program) (w : World) (K : PySem.W.Frag) (mg : Str → Option Value) (base : Heap) (x : Str) (k : Nat) (ps : List Str) (sp : Sp) : Prop where
  ex : ∃ f fd, FnOk P w K mg base CX0 k f fd ps sp ∧ mg x = some (.ref f) ∧ PySem.W.keepIn K (.ref f) = true ∧ Binds K fd ps []
/-- a method m of the class at C; a property; an __init__ -/
structure Dmt (P : Program) (w : World) (K : PySem.W.Frag) (mg : Str → Option Value) (base : Heap) (C : Addr) (m : Str) (k : Nat) (ps : List Str) (sp : Sp) : Prop where
  ex : ∃ f fd, FnOk P w K mg base CX0 k f fd ps sp ∧ Cls K C ∧ Meth K C m f ∧ Binds K fd ps []
structure Dpr (P : Program) (w : World) (K : PySem.W.Frag) (mg : Str → Option Value) (base : Heap) (C : Addr) (m : Str) (k : Nat) (ps : List Str) (sp : Sp) : Prop where
  ex : ∃ f p fd, FnOk P w K mg base CX0 k f fd ps sp ∧ Cls K C ∧ PropOf K C m p f ∧ Binds K fd ps []
structure Di (P : Program) (w : World) (K : PySem.W.Frag) (mg : Str → Option Value) (base : Heap) (x : Str) (C : Addr) (k : Nat) (ps : List Str) (sp : Sp) : Prop where
  ex : ∃ f fd, FnOk P w K mg base CX0 k f fd ps sp ∧ mg x = some (.ref C) ∧ Mk K C f ∧ Binds K fd ps []
section
variable {X : Cx} {k : Nat} {C : Addr} {ps : List Str} {sp : Sp} {x m : Str} {p pos apos : Pos} {e o : Expr} {es : List Expr} {ta : TE} {t : TA}
theorem pe_callD (D : Df X.prog X.w X.K X.mg X.base x k ps sp) (hr : Room k X.A) (ha : PA X (e :: es) t) (hg : Gl X x := by rfl) (hdb : (x == ("__debug__" : Str)) = false := by decide)
    (he : starEach (e :: es) X.env = (false, eval e X.env) :: starEach es X.env := by rfl) (hpl : (backTo pos (starEach es X.env)).any (·.1) = false := by rfl) : PE X (.Call (.Name x p) (e :: es) [] pos) (tCall sp [] E0 t) := by
  obtain ⟨f, fd, F, hm, hk, hb⟩ := D.ex
  exact pe_call F hr hg hm hk hb .nil pass0 ha hdb he hpl
theorem pe_call0D (D : Df X.prog X.w X.K X.mg X.base x k ps sp) (hr : Room k X.A) (hg : Gl X x := by rfl) (hdb : (x == ("__debug__" : Str)) = false := by decide) : PE X (.Call (.Name x p) [] [] pos) (tCall sp [] E0 tNil) := by
  obtain ⟨f, fd, F, hm, hk, hb⟩ := D.ex
  exact pe_call0 F hr hg hm hk hb .nil pass0 hdb
theorem pe_methD {pl : Sem Bool} (D : Dmt X.prog X.w X.K X.mg X.base C m k ps sp) (hr : Room k X.A) (he : PE X o ta) (ha : PA X (e :: es) t)
    (hst : starEach (e :: es) X.env = (false, eval e X.env) :: starEach es X.env := by rfl) (hpl : (backTo pos (starEach es X.env)).any (·.1) = false := by rfl)
    (ht : eval (.Call (.Attribute o m apos) (e :: es) [] pos) X.env = (do
      let ov ← eval o X.env
      standAt apos.atName
      let (f, first) ← holding [ov] (getMethod ov m pl)
      callWith pos f first (backTo pos (starEach (e :: es) X.env)) (backToKw pos (keywordEach [] X.env))) := by rfl) :
    PE X (.Call (.Attribute o m apos) (e :: es) [] pos) (tMeth C m sp [] E0 ta t) := by
  obtain ⟨f, fd, F, c, hm, hb⟩ := D.ex
  exact pe_meth he c hm F hr hb .nil pass0 ha hst hpl ht
theorem pe_meth0D {pl : Sem Bool} (D : Dmt X.prog X.w X.K X.mg X.base C m k ps sp) (hr : Room k X.A) (he : PE X o ta)
    (ht : eval (.Call (.Attribute o m apos) [] [] pos) X.env = (do
      let ov ← eval o X.env
      standAt apos.atName
      let (f, first) ← holding [ov] (getMethod ov m pl)
      callWith pos f first (backTo pos (starEach [] X.env)) (backToKw pos (keywordEach [] X.env))) := by rfl) :
    PE X (.Call (.Attribute o m apos) [] [] pos) (tMeth C m sp [] E0 ta tNil) := by
  obtain ⟨f, fd, F, c, hm, hb⟩ := D.ex
  exact pe_meth0 he c hm F hr hb .nil pass0 ht
theorem pe_propD (D : Dpr X.prog X.w X.K X.mg X.base C m k ps sp) (hr : Room (k + 1) X.A) (he : PE X e ta)
    (hab : attributeBase e m X.env (eval e X.env) = eval e X.env := by rfl) : PE X (.Attribute e m pos) (tProp C sp [] E0 ta) := by
  obtain ⟨f, q, fd, F, c, hm, hb⟩ := D.ex
  exact pe_prop he c hm F hr hb .nil pass0 hab
theorem pe_makeD (D : Di X.prog X.w X.K X.mg X.base x C k ps sp) (hr : Room (k + 1) X.A) (ha : PA X (e :: es) t) (hg : Gl X x := by rfl) (hdb : (x == ("__debug__" : Str)) = false := by decide)
    (he : starEach (e :: es) X.env = (false, eval e X.env) :: starEach es X.env := by rfl) (hpl : (backTo pos (starEach es X.env)).any (·.1) = false := by rfl) : PE X (.Call (.Name x p) (e :: es) [] pos) (tMake C sp [] E0 t) := by
  obtain ⟨f, fd, F, hm, hk, hb⟩ := D.ex
  exact pe_make hk F hr hg hm hb .nil pass0 ha hdb he hpl
theorem pe_make0D (D : Di X.prog X.w X.K X.mg X.base x C k ps sp) (hr : Room (k + 1) X.A) (hg : Gl X x := by rfl) (hdb : (x == ("__debug__" : Str)) = false := by decide) : PE X (.Call (.Name x p) [] [] pos) (tMake C sp [] E0 tNil) := by
  obtain ⟨f, fd, F, hm, hk, hb⟩ := D.ex
  exact pe_make0 hk F hr hg hm hb .nil pass0 hdb
/-- a constant of the module -/
def Cst (mg : Str → Option Value) (x : Str) (v : V) : Prop := ∃ u, mg x = some u ∧ RelV v u
theorem pe_cst {v : V} (h : Cst X.mg x v) (hg : Gl X x := by rfl) (hd : (x == ("__debug__" : Str)) = false := by decide) : PE X (.Name x pos) (tC v) := by
  obtain ⟨u, h1, h2⟩ := h
  exact pe_glob hg h1 h2 hd
theorem pe_fldD {f : Str} (he : PE X e ta) (hb : attributeBase e f X.env (eval e X.env) = eval e X.env := by rfl) : PE X (.Attribute e f pos) (tFld X.K ta f) := pe_fld he hb
end
section
variable {K : PySem.W.Frag}
def DefAt (K : PySem.W.Frag) (mg : Str → Option Value) (x : Str) (st : Stmt) : Prop := ∃ f fd, Fun K x x st f fd ∧ mg x = some (.ref f) ∧ PySem.W.keepIn K (.ref f) = true
def MethAt (K : PySem.W.Frag) (C : Addr) (m qual : Str) (st : Stmt) : Prop := ∃ f fd, Fun K m qual st f fd ∧ PySem.W.findIn K (.ref C) m = some (some (.ref f)) ∧ PySem.W.isFn K (.ref f) = true ∧ PySem.W.keepIn K (.ref f) = true
structure ClsAt (K : PySem.W.Frag) (mg : Str → Option Value) (x : Str) (C : Addr) : Prop where
  mg_ : mg x = some (.ref C)
  c : Cls K C
  mk_ : PySem.W.makesIn K C = true
  kp : PySem.W.keepIn K (.ref C) = true
theorem ClsAt.cst {mg : Str → Option Value} {x : Str} {C : Addr} (c : ClsAt K mg x C) : Cst mg x (.ref C) := ⟨_, c.mg_, rfl⟩
theorem mkDef {h : Heap} {mg : Str → Option Value} {x : Str} {st : Stmt} {f : Addr} {oc : Value} {od an : Option Addr} {osl : Array (Option Value)} {kV doc pm cdv ct : Value} (X : K.In h) (G : h.Ns mainGlobals mg)
    (a : PySem.W.nsIn K mainGlobals x = some (some (.ref f))) (l : K.lookup f = some ⟨oc, od, .func (PySem.W.fnOf x x (defArgs st) (defBody st) (defScope st) .none kV doc pm an cdv ct), osl⟩) (c : PySem.W.codeIn K cdv x = true) (k : PySem.W.keepIn K (.ref f) = true) : DefAt K mg x st :=
  ⟨f, _, fun_mk l c k, PySem.W.mg_of X G a, k⟩
theorem mkMeth {C : Addr} {m qual : Str} {st : Stmt} {f : Addr} {oc : Value} {od an : Option Addr} {osl : Array (Option Value)} {kV doc pm cdv ct : Value}
    (a : PySem.W.findIn K (.ref C) m = some (some (.ref f))) (i : PySem.W.isFn K (.ref f) = true) (l : K.lookup f = some ⟨oc, od, .func (PySem.W.fnOf m qual (defArgs st) (defBody st) (defScope st) .none kV doc pm an cdv ct), osl⟩) (c : PySem.W.codeIn K cdv qual = true) (k : PySem.W.keepIn K (.ref f) = true) : MethAt K C m qual st :=
  ⟨f, _, fun_mk l c k, a, i, k⟩
theorem mkCls {h : Heap} {mg : Str → Option Value} {x : Str} {C : Addr} (X : K.In h) (G : h.Ns mainGlobals mg) (a : PySem.W.nsIn K mainGlobals x = some (some (.ref C)))
    (pg : PySem.W.plainGet K C Str.empty = true) (hd : PySem.W.hasDictIn K C = true) (po : PySem.W.plainOver K C = true) (sa : PySem.W.findIn K (.ref C) "__setattr__" = some (some (.builtin "object.__setattr__"))) (mk : PySem.W.makesIn K C = true) (kc : PySem.W.keepIn K (.ref C) = true) : ClsAt K mg x C :=
  ⟨PySem.W.mg_of X G a, ⟨pg, hd, po, sa⟩, mk, kc⟩
theorem mkInt {h : Heap} {mg : Str → Option Value} {x : Str} {i : Int} {t : Tok} (X : K.In h) (G : h.Ns mainGlobals mg) (a : PySem.W.nsIn K mainGlobals x = some (some (.int i t))) : Cst mg x (.int i) := ⟨_, PySem.W.mg_of X G a, t, rfl⟩
theorem mkStr {h : Heap} {mg : Str → Option Value} {x : Str} {i : Str} {t : Tok} (X : K.In h) (G : h.Ns mainGlobals mg) (a : PySem.W.nsIn K mainGlobals x = some (some (.str i t))) : Cst mg x (.str i) := ⟨_, PySem.W.mg_of X G a, t, rfl⟩
theorem mkNo {h : Heap} {mg : Str → Option Value} {x : Str} (X : K.In h) (G : h.Ns mainGlobals mg) (a : PySem.W.nsIn K mainGlobals x = some none) : mg x = none := PySem.W.mg_none_of X G a
section
variable {P : Program} {w : World} {mg : Str → Option Value} {base : Heap} {x m qual : Str} {st : Stmt} {C : Addr} {k : Nat} {ps : List Str} {sp : Sp}
theorem DefAt.df (d : DefAt K mg x st) (ok : ∀ {f : Addr} {fd : FuncData}, Fun K x x st f fd → FnOk P w K mg base CX0 k f fd ps sp)
    (b : ∀ (kV doc pm : Value) (an : Option Addr) (cdv ct : Value) (us : List Value), us.length = ps.length → bindArgs (PySem.W.fnOf x x (defArgs st) (defBody st) (defScope st) .none kV doc pm an cdv ct) ⟨us, []⟩ = pure (ps.zip us)) : Df P w K mg base x k ps sp := by
  obtain ⟨f, fd, F, hm, hk⟩ := d
  exact ⟨f, fd, ok F, hm, hk, F.binds b⟩
theorem MethAt.dm (d : MethAt K C m qual st) (c : Cls K C) (ok : ∀ {f : Addr} {fd : FuncData}, Fun K m qual st f fd → FnOk P w K mg base CX0 k f fd ps sp)
    (b : ∀ (kV doc pm : Value) (an : Option Addr) (cdv ct : Value) (us : List Value), us.length = ps.length → bindArgs (PySem.W.fnOf m qual (defArgs st) (defBody st) (defScope st) .none kV doc pm an cdv ct) ⟨us, []⟩ = pure (ps.zip us)) : Dmt P w K mg base C m k ps sp := by
  obtain ⟨f, fd, F, ha, hi, hk⟩ := d
  exact ⟨f, fd, ok F, c, ⟨ha, hi, hk⟩, F.binds b⟩
theorem MethAt.di (d : MethAt K C "__init__" qual st) (c : ClsAt K mg x C) (ok : ∀ {f : Addr} {fd : FuncData}, Fun K "__init__" qual st f fd → FnOk P w K mg base CX0 k f fd ps sp)
    (b : ∀ (kV doc pm : Value) (an : Option Addr) (cdv ct : Value) (us : List Value), us.length = ps.length → bindArgs (PySem.W.fnOf "__init__" qual (defArgs st) (defBody st) (defScope st) .none kV doc pm an cdv ct) ⟨us, []⟩ = pure (ps.zip us)) : Di P w K mg base x C k ps sp := by
  obtain ⟨f, fd, F, ha, hi, hk⟩ := d
  exact ⟨f, fd, ok F, c.mg_, ⟨c.mk_, ha, hi, c.kp⟩, F.binds b⟩
def spX : Sp := fun _ _ _ _ => False
end
end
end Dm

set_option Elab.async false
set_option linter.all false
set_option maxRecDepth 100000
set_option maxHeartbeats 4000000
set_option autoImplicit false
/-! Dx: what gen2 names besides. -/
namespace Dm
open PySem L2 Evl StX PyProof.Rows
variable {K : PySem.W.Frag} {M : List Nat}
theorem d_isiC {C : Addr} {ns : List Str} {ds : List D} (c : C8.InsC K C) : RAD K (rIsi K) [.obj C ns ds, .adr C] (.bl true) := fun F H vs e ⟨w, ws, h1, h2, w2, ws2, h3, h4, h5⟩ Q q => by
  obtain ⟨a, dx, us, rfl, hc, hl, hr⟩ := h2
  exact ⟨.ref a, w2, .ref C, .ref C, true, by rw [h1, h3, show ws2 = [] from h5], by rw [show w2 = .ref C from h4]; exact .own C, .base (.ins (e _ _ hc) c.cl c.ha c.hn c.htk c.hm), c.me, q _ F H (.refl e) rfl⟩
/-! branches, the slots stay -/
theorem ev_ifE {env env1 : List Slot} {ta tb : TE} {t : TT} {α : Type} {φ : α → D} {a : Bool} {A B : Option α} {x : α} (h0 : EvT K M t env a env1) (h : (if a = true then A else B) = some x) (h1 : a = true → A = some x → Ev K M ta env1 (φ x) env1) (h2 : a = false → B = some x → Ev K M tb env1 (φ x) env1) : Ev K M (tIf t ta tb) env (φ x) env1 := ev_ifO h0 h h1 h2
theorem ev_someO {env env1 : List Slot} {te : TE} {α : Type} {φ : α → D} {o : Option α} {x : α} (h : Ev K M te env (optD φ o) env1) (e : o = some x) : Ev K M te env (φ x) env1 := by subst e; exact h
/-! sorted(.., key=len) of tuples -/
theorem zip_sw {α β : Type} : ∀ (l : List α) (m : List β), l.zip m = (m.zip l).map fun p => (p.2, p.1)
  | [], [] => rfl
  | [], _ :: _ => rfl
  | _ :: _, [] => rfl
  | a :: l, b :: m => by rw [List.zip_cons_cons, List.zip_cons_cons, List.map_cons, zip_sw l m]
def srtLen (rs : List (List D)) : List (List D) := rs.mergeSort fun a b => decide (a.length ≤ b.length)
theorem repL_of_zip {H : Hp} : ∀ {T : List (List D × V)}, (∀ a ∈ T, Rep K H (.tup a.1) a.2) → RepL K H (T.map fun a => .tup a.1) (T.map Prod.snd)
  | [], _ => rfl
  | a :: T, h => ⟨_, _, rfl, h a List.mem_cons_self, repL_of_zip fun x hx => h x (List.mem_cons_of_mem _ hx)⟩
theorem zip_rep {H : Hp} : ∀ {rs : List (List D)} {vs : List V}, RepL K H (rs.map .tup) vs → ∀ a ∈ rs.zip vs, Rep K H (.tup a.1) a.2
  | [], _, _, a, ha => by simp at ha
  | r :: rs, _, ⟨w, ws, rfl, h2, h3⟩, a, ha => by
    rw [List.zip_cons_cons] at ha
    rcases List.mem_cons.mp ha with rfl | ha
    · exact h2
    · exact zip_rep h3 a ha
theorem ev_sortLen {ta : TA} {env env1 : List Slot} {rs : List (List D)} (h : EvA K M ta env [.lst (rs.map .tup)] env1) : Ev K M (tSortLen K ta) env (.lst ((srtLen rs).map .tup)) env1 := fun B F H σ T s Q q =>
  h B F H σ T s _ fun vs F1 H1 T1 s1 g1 k1 ⟨w, ws, h1, ⟨a, us, h2, ha, ra⟩, h3⟩ => by
    have hl : us.length = rs.length := by rw [ra.len, List.length_map]
    refine ⟨w, by rw [h1, show ws = [] from h3], a, us, rs.map List.length, h2, sq_of (s1.fh _ _ ha), by rw [List.length_map]; exact hl, fun y hy => ?_, fun p hp => ?_⟩
    · rw [List.zip_map_right] at hy
      obtain ⟨⟨v, r⟩, hv, rfl⟩ := List.mem_map.mp hy
      have hv2 : (r, v) ∈ rs.zip us := by
        rw [zip_sw, List.mem_map]
        exact ⟨_, hv, rfl⟩
      obtain ⟨t, ys, e1, e2, e3⟩ := zip_rep ra _ hv2
      exact ⟨t, ys, e1, st_of (s1.fh _ _ e2), e3.len⟩
    · have e1 : ((us.zip (rs.map List.length)).mergeSort fun a b => decide (a.2 ≤ b.2)).map Prod.fst = ((rs.zip us).mergeSort fun a b => decide (a.1.length ≤ b.1.length)).map Prod.snd := by
        have : us.zip (rs.map List.length) = (rs.zip us).map fun a => (a.2, a.1.length) := by
          rw [List.zip_map_right, zip_sw, List.map_map]; rfl
        rw [this, ← List.map_mergeSort (r := fun (a b : List D × V) => decide (a.1.length ≤ b.1.length)) (s := fun (a b : V × Nat) => decide (a.2 ≤ b.2)) (f := fun a => (a.2, a.1.length)) (fun _ _ _ _ => rfl), List.map_map]
        rfl
      have e2 : srtLen rs = ((rs.zip us).mergeSort fun a b => decide (a.1.length ≤ b.1.length)).map Prod.fst := by
        rw [List.map_mergeSort (r := fun (a b : List D × V) => decide (a.1.length ≤ b.1.length)) (s := fun (a b : List D) => decide (a.length ≤ b.length)) (f := Prod.fst) (fun _ _ _ _ => rfl), List.map_fst_zip (by omega)]
        rfl
      have hr : RepL K F1 ((srtLen rs).map .tup) (((us.zip (rs.map List.length)).mergeSort fun a b => decide (a.2 ≤ b.2)).map Prod.fst) := by
        rw [e1, e2, List.map_map]
        refine repL_of_zip fun a ha => ?_
        exact zip_rep ra a ((List.mergeSort_perm _ _).mem_iff.mp ha)
      have u := Up.new (o := .lst (((us.zip (rs.map List.length)).mergeSort fun a b => decide (a.2 ≤ b.2)).map Prod.fst)) s1.fh hp
      exact q _ _ _ T1 (s1.up u) (g1.trans (.of_up s1.bh u)) k1 ⟨p, _, rfl, upd_same, hr.mono u.f⟩
def sortLen {α : Type} (xs : List (List α)) : List (List α) := xs.mergeSort fun a b => decide (a.length ≤ b.length)
theorem ev_sortLenT {α : Type} {φ : α → D} {ta : TA} {env env1 : List Slot} {xs : List (List α)} (h : EvA K M ta env [.lst (xs.map fun z => .tup (z.map φ))] env1) : Ev K M (tSortLen K ta) env (.lst ((sortLen xs).map fun z => .tup (z.map φ))) env1 := by
  have e0 : ∀ ys : List (List α), (ys.map fun z => D.tup (z.map φ)) = (ys.map (List.map φ)).map D.tup := fun ys => by rw [List.map_map]; rfl
  rw [e0] at h ⊢
  have : (sortLen xs).map (List.map φ) = srtLen (xs.map (List.map φ)) := by
    unfold sortLen srtLen
    exact List.map_mergeSort (fun a _ b _ => by simp)
  rw [this]
  exact ev_sortLen h
/-! x * n of texts, lists -/
/-! .. is peeked at -/
theorem rad_fz {r : List V → Hp → VK → Prop} {o : OD} {d c : D} (e : o.fz = d) (h : RAD K r [d] c) : RAD K r [o.fz] c := by rw [e]; exact h
theorem r2_fzL {r : R2} {o : OD} {d b c : D} (e : o.fz = d) (h : R2D K r d b c) : R2D K r o.fz b c := by rw [e]; exact h
theorem r2_fzR {r : R2} {o : OD} {d b c : D} (e : o.fz = d) (h : R2D K r b d c) : R2D K r b o.fz c := by rw [e]; exact h
theorem out_of {vs : List Nat} {e o : List Slot} (h : ∀ v ∈ vs, ∀ u : OD, o[v]? ≠ some (Slot.own u)) (he : ∀ i, i ∉ vs → o[i]? = e[i]?) : Out vs e o := fun i u hu => by
  have hi : i ∉ vs := fun hv => h i hv u hu
  exact ⟨hi, by rw [← he i hi]; exact hu⟩
/-! lists taken apart -/
def un2 {α : Type} : List α → Option (α × α)
  | [a, b] => some (a, b)
  | _ => none
def un3 {α : Type} : List α → Option (α × α × α)
  | [a, b, c] => some (a, b, c)
  | _ => none
def un4 {α : Type} : List α → Option (α × α × α × α)
  | [a, b, c, d] => some (a, b, c, d)
  | _ => none
theorem un2_eq {α : Type} {l : List α} {p : α × α} (h : un2 l = some p) : l = [p.1, p.2] := by
  unfold un2 at h; split at h
  · cases h; rfl
  · cases h
theorem un3_eq {α : Type} {l : List α} {p : α × α × α} (h : un3 l = some p) : l = [p.1, p.2.1, p.2.2] := by
  unfold un3 at h; split at h
  · cases h; rfl
  · cases h
theorem un4_eq {α : Type} {l : List α} {p : α × α × α × α} (h : un4 l = some p) : l = [p.1, p.2.1, p.2.2.1, p.2.2.2] := by
  unfold un4 at h; split at h
  · cases h; rfl
  · cases h
/-! a list or a tuple -/
def sqD {α : Type} (φ : α → D) (p : Bool × List α) : D := if p.1 then .lst (p.2.map φ) else .tup (p.2.map φ)
theorem it_anyQ {α : Type} {φ : α → D} {tl : TE} {env env1 : List Slot} {p : Bool × List α} (h : Ev K M tl env (sqD φ p) env1) : It K M (iAny K tl) env (p.2.map φ) env1 Free := by
  obtain ⟨b, xs⟩ := p
  cases b with
  | true => exact it_anyL h
  | false => exact it_anyT h
/-! a parameter that holds a def -/
theorem ev_callA {R : List D → Res → Prop} {S : Addr → Option Sp} {i : Nat} {f : Addr} {t : TA} {env env1 : List Slot} {ds : List D} {d : D} (hi : env[i]? = some (.val (.adr f))) (hS : S f = some (spF K R)) (ha : EvA K M t env ds env1) (hR : R ds (.v d)) : Ev K M (tCallA i S t) env d env1 := fun B F H σ T s Q q => by
  obtain ⟨v, h1, h2⟩ := s.val i _ hi
  rw [show v = .ref f from h2] at h1
  refine ⟨f, _, h1, hS, ?_⟩
  have := ev_callF (K := K) (M := M) (E := fun _ _ _ => False) ha hR B F H σ T s Q q
  simpa [tCall] using this
/-! a thing of one's own is frozen where it stands -/
theorem st_fz {ts : TS} {env : List Slot} {P : Post} {i : Nat} {o : OD} {d : D} (hi : env[i]? = some (.own o)) (e : o.fz = d) (k : St K M ts (env.set i (.val d)) P) : St K M ts env P := fun B F H σ T E r f => by
  obtain ⟨h1, h2, h3, h4⟩ := r.own i o hi
  obtain ⟨F', r', g, rv⟩ := r.give hi
  subst e
  have hl : i < σ.length := (List.getElem?_eq_some_iff.mp h1).1
  refine k B F' H σ T E ?_ (f.up g .refl)
  have := r'.set (i := i) rv
  rw [List.set_set] at this
  have e1 : σ.set i (some (T i).v) = σ := by
    refine List.ext_getElem? fun j => ?_
    by_cases hj : i = j
    · subst hj; rw [List.getElem?_set_self hl, h1]
    · rw [List.getElem?_set_ne hj]
  rw [e1] at this
  exact this
end Dm
namespace Dm
open PySem L2 Evl StX PyProof.Rows
variable {K : PySem.W.Frag} {M : List Nat}
def maskS : Slot → Slot
  | .own _ => .no
  | s => s
theorem jv_of {σ : Type} {J : σ → List Slot} (h : ∀ s s', (J s).map maskS = (J s').map maskS) : ∀ s s' (i : Nat) (d : D), (J s)[i]? = some (Slot.val d) → (J s')[i]? = some (Slot.val d) := fun s s' i d e => by
  have h1 : ((J s).map maskS)[i]? = some (.val d) := by rw [List.getElem?_map, e]; rfl
  rw [h s s', List.getElem?_map] at h1
  obtain ⟨x, hx, hy⟩ := Option.map_eq_some_iff.mp h1
  rw [hx]
  cases x with
  | own o => cases hy
  | no => cases hy
  | val d => exact congrArg some hy
def pyIxD (d : D) (i : Int) : Option D := match d with
  | .tup ds => atI ds i
  | .lst ds => atI ds i
  | _ => none
theorem ty_ixD {d x : D} {i : Int} (h : pyIxD d i = some x) : R2D K (uIx K) d (.int i) x := by
  unfold pyIxD at h; split at h
  · exact d_ixT h
  · exact d_ixL h
  · cases h
end Dm
namespace Dm
theorem wipeE_out {e : List Slot} : ∀ {vs : List Nat} {i : Nat}, i ∉ vs → (wipeE e vs)[i]? = e[i]?
  | [], _, _ => rfl
  | v :: vs, i, h => by
    show ((wipeE e vs).set v .no)[i]? = _
    rw [List.getElem?_set_ne (fun q => h (by simp [q]))]
    exact wipeE_out fun q => h (by simp [q])
theorem out_wp {vs : List Nat} {e o : List Slot} (h : freeB vs o = true) (hm : wipeE e vs = wipeE o vs) : Out vs e o := fun i u hu => by
  have hi : i ∉ vs := fun hv => by
    have := List.all_eq_true.mp h i hv
    rw [hu] at this
    cases this
  refine ⟨hi, ?_⟩
  rw [← wipeE_out (e := e) hi, hm, wipeE_out hi, hu]
end Dm
namespace Dm
open PySem L2 Evl StX PyProof.Rows
variable {K : PySem.W.Frag} {M : List Nat}
/-- str(x), x an int or a text -/
def pyStrD (d : D) : Option Str := match d with
  | .int i => pyStr i
  | .str z => some z
  | _ => none
theorem ty_strD {d : D} {z : Str} (h : pyStrD d = some z) : RAD K rStrI [d] (.str z) := by
  unfold pyStrD at h; split at h
  · exact ty_str h
  · cases h; exact d_strS
  · cases h
/-- rows of other kinds, as rows of data -/
theorem sq_mapL {α β : Type} {φ : α → D} {ψ : β → D} {f : α → β} {xs : List α} (h : ∀ z, φ z = ψ (f z)) : D.lst (xs.map φ) = sqD ψ (true, xs.map f) := by
  show _ = D.lst ((xs.map f).map ψ)
  rw [List.map_map]; congr 1; exact List.map_congr_left fun z _ => h z
theorem sq_mapT {α β : Type} {φ : α → D} {ψ : β → D} {f : α → β} {xs : List α} (h : ∀ z, φ z = ψ (f z)) : D.tup (xs.map φ) = sqD ψ (false, xs.map f) := by
  show _ = D.tup ((xs.map f).map ψ)
  rw [List.map_map]; congr 1; exact List.map_congr_left fun z _ => h z
theorem it_anyD {tl : TE} {env env1 : List Slot} {ds : List D} (h : Ev K M tl env (.tup (ds.map fun z => z)) env1) : It K M (iAny K tl) env (ds.map fun z => z) env1 Free := it_anyT h
theorem rep_ints {F : Hp} : ∀ l : List Int, RepL K F (l.map D.int) (l.map V.int)
  | [] => rfl
  | x :: xs => ⟨_, _, rfl, rfl, rep_ints xs⟩
/-- a slice of the script -/
theorem ev_slR {env env1 env2 env3 : List Slot} {te : TE} {tl th : TO} {ns : List Int} {lo hi : Option Int} (he : Ev K M te env (.scr ns) env1) (hl : EvO K M tl env1 lo env2) (hh : EvO K M th env2 hi env3) : Ev K M (tSl (uSl K) te tl th) env (.lst ((cutL ns lo hi).map .int)) env3 := fun B F H σ T s Q q =>
  he B F H σ T s _ fun v F1 H1 T1 s1 g1 k1 ⟨a, h1, ha⟩ => hl B F1 H1 σ T1 s1 _ fun F2 H2 T2 s2 g2 k2 => hh B F2 H2 σ T2 s2 _ fun F3 H3 T3 s3 g3 k3 => .inl ⟨a, _, h1, ex_l s3.fh (ex_l g3.f (ex_l g2.f ha)), fun p hp => by
    have u := Up.new (o := .lst (cutV (ns.map V.int) lo hi)) s3.fh hp
    refine q _ _ _ T3 (s3.up u) ((g1.trans (g2.trans g3)).trans (.of_up s3.bh u)) (k1.trans (k2.trans k3)) ⟨p, _, rfl, upd_same, ?_⟩
    have e : cutV (ns.map V.int) lo hi = (cutL ns lo hi).map V.int := cutL_map V.int ns lo hi
    rw [e]; exact rep_ints _⟩
end Dm
namespace Dm
open PySem L2 Evl StX PyProof.Rows
variable {K : PySem.W.Frag} {M : List Nat}
/-- x * n -/
def pyRepS (x : Str) (n : Int) : Option Str := if -1000 ≤ n ∧ n ≤ 1000 ∧ x.length ≤ 1000 then some (strRep x n) else none
theorem ty_repS {x z : Str} {n : Int} (h : pyRepS x n = some z) : R2D K (uMul K) (.str x) (.int n) (.str z) := by
  unfold pyRepS at h; split at h
  · rename_i h1; cases h
    exact fun F H a b e ha hb Q q => .inr (.inr (.inr ⟨x, n, ha, hb, h1.1, h1.2.1, h1.2.2, q _ F H (.refl e) rfl⟩))
  · cases h
end Dm
namespace Dm
def pyAsI (d : D) : Option Int := match d with
  | .int i => some i
  | _ => none
theorem asI_eq {d : D} {i : Int} (h : pyAsI d = some i) : d = .int i := by
  unfold pyAsI at h; split at h
  · cases h; rfl
  · cases h
end Dm

set_option Elab.async false
set_option linter.all false
set_option maxRecDepth 100000
set_option maxHeartbeats 4000000
set_option autoImplicit false
/-! Dy: typed dicts, fields of one's own things. -/
namespace Dm
open PySem L2 Evl StX PyProof.Rows
variable {K : PySem.W.Frag} {M : List Nat}
section
variable {α β : Type} [DecidableEq α] {κ : α → Key} {φ : β → D} {m m' : List (α × β)} {k : α} {v : β}
def mGet (m : List (α × β)) (k : α) : Option β := match m with
  | [] => none
  | p :: m => if p.1 = k then some p.2 else mGet m k
def mPut (m : List (α × β)) (k : α) (v : β) : List (α × β) := if k ∈ m.map Prod.fst then m.map (fun p => if p.1 = k then (p.1, v) else p) else m ++ [(k, v)]
def mSet (m : List (α × β)) (k : α) (v : β) : Option (List (α × β)) := if m.length < 100000 then some (mPut m k v) else none
/-- a dict of data; one's own -/
abbrev mD (κ : α → Key) (φ : β → D) (m : List (α × β)) : D := .dic (m.map fun p => κ p.1) (m.map fun p => φ p.2)
abbrev oM (κ : α → Key) (φ : β → D) (m : List (α × β)) : OD := .dic (m.map fun p => κ p.1) (m.map fun p => .val (φ p.2))
theorem fz_oM : (oM κ φ m).fz = mD κ φ m := by
  unfold oM mD OD.fz
  rw [show (m.map fun p => OD.val (φ p.2)) = (m.map fun p => φ p.2).map OD.val by rw [List.map_map]; rfl, fzs_val]
theorem dlk_map (hκ : ∀ a b, κ a = κ b → a = b) : dlk (m.map fun p => κ p.1) (m.map fun p => φ p.2) (κ k) = (mGet m k).map φ := by
  induction m with
  | nil => rfl
  | cons p m ih =>
    rw [List.map_cons, List.map_cons, dlk, mGet]
    by_cases h : p.1 = k
    · rw [if_pos (by rw [h]), if_pos h]; rfl
    · rw [if_neg fun z => h (hκ _ _ z), if_neg h, ih]
theorem d_ixK {ks : List Key} {ds : List D} {k : Key} {d : D} (h : dlk ks ds k = some d) : R2D K (uIx K) (.dic ks ds) (kD k) d := fun F H x y e ⟨a, vs, hx, ha, hl, ra⟩ hy Q q => by
  obtain ⟨v, hv, rv⟩ := zip_val ra h
  exact .inr ⟨a, v, hx, .inl ⟨_, k, (.inl (e _ _ ha)), rep_kD hy, hv.symm⟩, q v F H (.refl e) rv⟩
theorem d_inK {ks : List Key} {ds : List D} {k : Key} : R2D K (uIn K) (kD k) (.dic ks ds) (.bl (dlk ks ds k).isSome) := fun F H y x e hy ⟨a, vs, hx, ha, hl, ra⟩ Q q => by
  refine .inr (.inr ⟨a, valV (ks.zip vs) k, hx, .inl ⟨_, k, (.inl (e _ _ ha)), rep_kD hy, rfl⟩, q _ F H (.refl e) ?_⟩)
  cases h : dlk ks ds k with
  | none => rw [zip_no ra hl h]; rfl
  | some d => obtain ⟨v, hv, _⟩ := zip_val ra h; rw [hv]; rfl
theorem d_niK {ks : List Key} {ds : List D} {k : Key} : R2D K (uNi K) (kD k) (.dic ks ds) (.bl (!(dlk ks ds k).isSome)) := fun F H y x e hy ⟨a, vs, hx, ha, hl, ra⟩ Q q => by
  refine .inr (.inr ⟨a, valV (ks.zip vs) k, hx, .inl ⟨_, k, (.inl (e _ _ ha)), rep_kD hy, rfl⟩, q _ F H (.refl e) ?_⟩)
  cases h : dlk ks ds k with
  | none => rw [zip_no ra hl h]; rfl
  | some d => obtain ⟨v, hv, _⟩ := zip_val ra h; rw [hv]; rfl
theorem ty_ixM (hκ : ∀ a b, κ a = κ b → a = b) (h : mGet m k = some v) : R2D K (uIx K) (mD κ φ m) (kD (κ k)) (φ v) := d_ixK (by rw [dlk_map hκ, h]; rfl)
theorem ty_inM (hκ : ∀ a b, κ a = κ b → a = b) : R2D K (uIn K) (kD (κ k)) (mD κ φ m) (.bl (mGet m k).isSome) := by
  have := d_inK (K := K) (ks := m.map fun p => κ p.1) (ds := m.map fun p => φ p.2) (k := κ k)
  rwa [dlk_map hκ, Option.isSome_map] at this
theorem ty_niM (hκ : ∀ a b, κ a = κ b → a = b) : R2D K (uNi K) (kD (κ k)) (mD κ φ m) (.bl (!(mGet m k).isSome)) := by
  have := d_niK (K := K) (ks := m.map fun p => κ p.1) (ds := m.map fun p => φ p.2) (k := κ k)
  rwa [dlk_map hκ, Option.isSome_map] at this
theorem ty_lenM : RAD K (uLen K) [mD κ φ m] (.int (m.length : Nat)) := by
  have := d_lenD (K := K) (ks := m.map fun p => κ p.1) (ds := m.map fun p => φ p.2)
  rwa [List.length_map] at this
theorem ty_listM {χ : α → D} (hχ : ∀ a, kD (κ a) = χ a) : RAD K (uList K) [mD κ φ m] (.lst ((m.map Prod.fst).map χ)) := by
  have := d_listD (K := K) (ks := m.map fun p => κ p.1) (ds := m.map fun p => φ p.2)
  rw [List.map_map] at this
  rw [List.map_map, show (χ ∘ Prod.fst : α × β → D) = kD ∘ fun p => κ p.1 from funext fun p => (hχ p.1).symm]
  exact this
variable {env env1 env2 : List Slot} {te ta tb tk tx : TE} {i : Nat} {o u : OD} {π : List Nat} {M' : List Nat} {P : Post}
theorem ev_eqM (h : Ev K M te env (mD κ φ m) env1) : Ev K M (tOp (uEq K) te tDNewK) env (.bl m.isEmpty) env1 := by
  have := ev_eqE h
  rwa [List.isEmpty_map] at this
theorem ev_neM (h : Ev K M te env (mD κ φ m) env1) : Ev K M (tOp (uNe K) te tDNewK) env (.bl !m.isEmpty) env1 := by
  have := ev_neE h
  rwa [List.isEmpty_map] at this
theorem pl_eqE {ks : List Key} {os : List OD} (hp : Pl K te env i π) (hi : env[i]? = some (.own o)) (ho : o.at π = some (.dic ks os)) : Ev K M (tOp (uEq K) te tDNewK) env (.bl ks.isEmpty) env := fun B F H σ T r Q q =>
  hp B F H σ T r _ fun s F1 H1 r1 g1 hs => fun p hp => by
    obtain ⟨a, cs, rfl, h1, h3, h2⟩ := r1.here hi ho hs
    refine .inr (.inr ⟨a, p, _, rfl, rfl, ex_rd (Ex.new hp) (.inl h1), upd_same, ?_⟩)
    have u := Up.heap (o := .dK []) r1.fh hp
    refine q _ F1 _ T (r1.up u) g1 .refl ?_
    cases ks with
    | nil => rfl
    | cons k ks => cases cs with
      | nil => cases h3
      | cons v vs => rfl
theorem pl_neE {ks : List Key} {os : List OD} (hp : Pl K te env i π) (hi : env[i]? = some (.own o)) (ho : o.at π = some (.dic ks os)) : Ev K M (tOp (uNe K) te tDNewK) env (.bl !ks.isEmpty) env := fun B F H σ T r Q q =>
  hp B F H σ T r _ fun s F1 H1 r1 g1 hs => fun p hp => by
    obtain ⟨a, cs, rfl, h1, h3, h2⟩ := r1.here hi ho hs
    refine .inr (.inr ⟨a, p, _, rfl, rfl, ex_rd (Ex.new hp) (.inl h1), upd_same, ?_⟩)
    have u := Up.heap (o := .dK []) r1.fh hp
    refine q _ F1 _ T (r1.up u) g1 .refl ?_
    cases ks with
    | nil => rfl
    | cons k ks => cases cs with
      | nil => cases h3
      | cons v vs => rfl
theorem pl_eqM (hp : Pl K te env i π) (hi : env[i]? = some (.own o)) (ho : o.at π = some (oM κ φ m)) : Ev K M (tOp (uEq K) te tDNewK) env (.bl m.isEmpty) env := by
  have := pl_eqE (M := M) hp hi ho
  rwa [List.isEmpty_map] at this
theorem pl_neM (hp : Pl K te env i π) (hi : env[i]? = some (.own o)) (ho : o.at π = some (oM κ φ m)) : Ev K M (tOp (uNe K) te tDNewK) env (.bl !m.isEmpty) env := by
  have := pl_neE (M := M) hp hi ho
  rwa [List.isEmpty_map] at this
theorem pl_lenM (hp : Pl K te env i π) (hi : env[i]? = some (.own o)) (ho : o.at π = some (oM κ φ m)) : Ev K M (tCB (uLen K) (tCons te tNil)) env (.int (m.length : Nat)) env := ev_peekCB hp hi ho (rad_fz fz_oM ty_lenM) rfl
theorem pl_lenL {α : Type} {φ : α → D} {xs : List α} (hp : Pl K te env i π) (hi : env[i]? = some (.own o)) (ho : o.at π = some (odL φ xs)) : Ev K M (tCB (uLen K) (tCons te tNil)) env (.int (xs.length : Nat)) env := ev_peekCB hp hi ho (rad_fz fz_odL (ty_lenL (φ := φ))) rfl
theorem pl_inM (hκ : ∀ a b, κ a = κ b → a = b) (hb : Ev K M tb env (kD (κ k)) env1) (hp : Pl K te env1 i π) (hi : env1[i]? = some (.own o)) (ho : o.at π = some (oM κ φ m)) : Ev K M (tOp (uIn K) tb te) env (.bl (mGet m k).isSome) env1 := ev_peekR hb hp hi ho (r2_fzR fz_oM (ty_inM hκ)) rfl
theorem pl_niM (hκ : ∀ a b, κ a = κ b → a = b) (hb : Ev K M tb env (kD (κ k)) env1) (hp : Pl K te env1 i π) (hi : env1[i]? = some (.own o)) (ho : o.at π = some (oM κ φ m)) : Ev K M (tOp (uNi K) tb te) env (.bl (!(mGet m k).isSome)) env1 := ev_peekR hb hp hi ho (r2_fzR fz_oM (ty_niM hκ)) rfl
theorem ixOf_get (hκ : ∀ a b, κ a = κ b → a = b) (h : mGet m k = some v) : ixOf (κ k) (m.map fun p => κ p.1) < m.length ∧ m[ixOf (κ k) (m.map fun p => κ p.1)]?.map Prod.snd = some v := by
  induction m with
  | nil => cases h
  | cons p m ih =>
    rw [List.map_cons]
    unfold ixOf
    unfold mGet at h
    by_cases e : p.1 = k
    · rw [if_pos e] at h
      rw [if_pos (by rw [e])]
      exact ⟨by simp, by simpa using h⟩
    · rw [if_neg e] at h
      rw [if_neg fun z => e (hκ _ _ z)]
      obtain ⟨h1, h2⟩ := ih h
      exact ⟨by simpa using h1, by simpa using h2⟩
theorem pl_ixM (hκ : ∀ a b, κ a = κ b → a = b) (hp : Pl K te env i π) (hi : env[i]? = some (.own o)) (ho : o.at π = some (oM κ φ m)) (hk : Ev K [] tk env (kD (κ k)) env) (h : mGet m k = some v) : Ev K M (tOp (uIx K) te tk) env (φ v) env := by
  obtain ⟨h1, h2⟩ := ixOf_get hκ h
  refine ev_leaf (pl_ixD hp hi ho hk rfl (by rw [List.length_map]; exact h1)) hi ?_
  rw [od_at_snoc π _ _ _ ho]
  show (m.map fun p => OD.val (φ p.2))[_]? = _
  rw [List.getElem?_map]
  obtain ⟨p, hp1, hp2⟩ := Option.map_eq_some_iff.mp h2
  rw [hp1, Option.map_some, hp2]
theorem put_maps (hκ : ∀ a b, κ a = κ b → a = b) : putKs (κ k) (m.map fun p => κ p.1) = (mPut m k v).map (fun p => κ p.1) ∧ putOs (κ k) (OD.val (φ v)) (m.map fun p => κ p.1) (m.map fun p => OD.val (φ p.2)) = (mPut m k v).map fun p => OD.val (φ p.2) := by
  have hm : κ k ∈ (m.map fun p => κ p.1) ↔ k ∈ m.map Prod.fst := by
    rw [List.mem_map, List.mem_map]
    exact ⟨fun ⟨p, h1, h2⟩ => ⟨p, h1, hκ _ _ h2⟩, fun ⟨p, h1, h2⟩ => ⟨p, h1, by rw [h2]⟩⟩
  unfold putKs putOs mPut
  by_cases h : k ∈ m.map Prod.fst
  · rw [if_pos (hm.mpr h), if_pos (hm.mpr h), if_pos h, List.map_map, List.map_map]
    constructor
    · exact List.map_congr_left fun p _ => by
        show κ p.1 = κ (if p.1 = k then (p.1, v) else p).1
        split <;> rfl
    · clear h hm
      induction m with
      | nil => rfl
      | cons p m ih =>
        rw [List.map_cons, List.map_cons, List.map_cons, putO, ih]
        congr 1
        show _ = OD.val (φ (if p.1 = k then (p.1, v) else p).2)
        by_cases e : p.1 = k
        · rw [if_pos (by rw [e]), if_pos e]
        · rw [if_neg fun z => e (hκ _ _ z), if_neg e]
  · rw [if_neg fun z => h (hm.mp z), if_neg fun z => h (hm.mp z), if_neg h, List.map_append, List.map_append]
    exact ⟨rfl, rfl⟩
theorem st_setMT (hκ : ∀ a b, κ a = κ b → a = b) (hx : Ev K M' tx env (φ v) env1) (hM : Sub M' M) (hiM : i ∈ M) (hp : Pl K te env1 i π) (hi : env1[i]? = some (.own o)) (ho : o.at π = some (oM κ φ m)) (hk : Ev K [] tk env1 (kD (κ k)) env1) (h : mSet m k v = some m')
    (kk : P.n (env1.set i (.own (o.put π (oM κ φ m'))))) : St K M (tAsg tx (gSub te tk uSet)) env P := by
  unfold mSet at h; split at h
  · rename_i h1; cases h
    refine st_setDP hx hM hiM hp hi ho hk (by rw [List.length_map]; exact h1) ?_
    rw [(put_maps hκ (φ := φ) (m := m) (k := k) (v := v)).1, (put_maps hκ).2]
    exact kk
  · cases h
end
section
variable {env env1 env2 : List Slot} {te ta tb tk tx : TE} {i : Nat} {o u : OD} {π : List Nat} {M' : List Nat} {P : Post}
theorem ew_dNew : EvW K M tDNewK env (.dic [] []) env := fun B F H σ T s Q q => fun p hp => by
  refine q (.node p []) F _ T (s.up (Up.heap s.fh hp)) .refl .refl ⟨p, [], rfl, by rw [upd_same]; rfl, rfl, rfl⟩ (by simp [AD.fp, AD.fps]) (fun a ha => ?_) fun j u a e ha => ?_
  · have ha : a = p := by simpa [AD.fp, AD.fps] using ha
    rw [ha]; exact ⟨fresh_back s.bh hp, fresh_back s.fh hp⟩
  · have ha : a = p := by simpa [AD.fp, AD.fps] using ha
    exact nin_new s hp j u a e (by rw [ha]; simp)
theorem mem_ixOf {κ : Type} [DecidableEq κ] {k : κ} : ∀ {ks : List κ}, ixOf k ks < ks.length → k ∈ ks
  | [], h => by simp at h
  | n :: ks, h => by
    unfold ixOf at h
    by_cases e : n = k
    · simp [e]
    · rw [if_neg e] at h
      exact List.mem_cons_of_mem _ (mem_ixOf (by simpa using h))
theorem st_fldNew {C : Addr} {ns : List Str} {os : List OD} {w : OD} {f : Str} (hx : EvW K M' tx env w env1) (hM : Sub M' M) (hiM : i ∈ M) (hp : Pl K te env1 i π) (hi : env1[i]? = some (.own o)) (ho : o.at π = some (.obj C ns os)) (c : Cls K C) (hn : NoAttr K C f) (hz : ns.length < 1000) (hf : f ∉ ns)
    (kk : P.n (env1.set i (.own (o.put π (.obj C (ns ++ [f]) (os ++ [w])))))) : St K M (sFld K te tx f) env P :=
  st_fldW hx hM hiM hp hi ho c hn hz (by unfold putNs putFs; rw [if_neg hf, if_neg hf]; exact kk)
theorem st_fldOld {C : Addr} {ns : List Str} {os : List OD} {w : OD} {f : Str} {j : Nat} (hx : EvW K M' tx env w env1) (hM : Sub M' M) (hiM : i ∈ M) (hp : Pl K te env1 i π) (hi : env1[i]? = some (.own o)) (ho : o.at π = some (.obj C ns os)) (c : Cls K C) (hn : NoAttr K C f) (hz : ns.length < 1000) (hj : ixOf f ns = j) (hl : j < ns.length)
    (kk : P.n (env1.set i (.own (o.put π (.obj C ns (os.set j w)))))) : St K M (sFld K te tx f) env P :=
  st_fldW hx hM hiM hp hi ho c hn hz (by
    have hf : f ∈ ns := mem_ixOf (by rw [hj]; exact hl)
    unfold putNs putFs; rw [if_pos hf, if_pos hf, hj]; exact kk)
/-- a, b = a new thing, a value -/
theorem st_parW {i j : Nat} {w : OD} {b : D} (h : EvW K M ta env w env1) (hb : Ev K M tb env1 b env2) (hi : i ∈ M) (hz : i ≠ 0) (hij : i ≠ j) (k : P.n ((env2.set i (.own w)).set j (.val b))) : St K M (tPar i j (tCons ta (tCons tb tNil))) env P := fun B F H σ T E r f =>
  h B F H σ T r _ fun t F1 H1 T1 r1 g1 k1 ra nd hn dj => by
    obtain ⟨B', b1, rb, b4, b5⟩ := r1.carry ra hn dj
    refine hb B' F1 H1 σ T1 rb _ fun v F2 H2 T2 r2 g2 k2 rv => ?_
    obtain ⟨ra2, hn2, dj2⟩ := b5 F2 H2 _ _ _ r2 g2
    have r2' := r2.subB b1
    exact ⟨t.v, v, rfl, f.n _ F2 H2 _ _ ((r2'.take (i := i) ra2 nd hn2 fun j u a e _ x => dj2 j u a e x).set (i := j) rv) (g1.trans (b4 _ g2)) ((k1.trans k2).trans (.up hi fun z => absurd z hz)) k⟩
end
/-- an object of one's own, in whose fields data stand -/
theorem fzs_cons (o : OD) (os : List OD) : OD.fzs (o :: os) = o.fz :: OD.fzs os := rfl
theorem inS : ∀ a b : Str, (Sum.inr a : Key) = Sum.inr b → a = b := fun _ _ => Sum.inr.inj
theorem inI : ∀ a b : Int, (Sum.inl a : Key) = Sum.inl b → a = b := fun _ _ => Sum.inl.inj
end Dm

set_option Elab.async false
set_option linter.all false
set_option maxRecDepth 100000
set_option maxHeartbeats 4000000
set_option autoImplicit false
/-! Dv: dicts walked by their keys: they stand locked. -/
namespace Dm
open PySem L2 Evl StX PyProof.Rows
variable {K : PySem.W.Frag} {M : List Nat}
mutual
/-- in which no locked dict is -/
def D.nolk : D → Bool
  | .tup ds => D.nolks ds
  | .lst ds => D.nolks ds
  | .ktup ds => D.nolks ds
  | .obj _ _ ds => D.nolks ds
  | .dic _ ds => D.nolks ds
  | .dit _ ds => D.nolks ds
  | .dil _ _ => false
  | _ => true
def D.nolks : List D → Bool
  | [] => true
  | d :: ds => d.nolk && D.nolks ds
end
theorem nolks_map {α : Type} {φ : α → D} (h : ∀ a, (φ a).nolk = true) : ∀ l : List α, D.nolks (l.map φ) = true
  | [] => rfl
  | a :: l => by rw [List.map_cons, D.nolks, h a, nolks_map h l]; rfl
/-- what is seen while it is locked -/
def D.wk : D → D
  | .non => .non | .bl b => .bl b | .int i => .int i | .str x => .str x | .ty n => .ty n | .adr a => .adr a
  | _ => .rf
theorem wk_rep {F F' : Hp} : ∀ {d : D} {v : V}, Rep K F d v → Rep K F' d.wk v
  | .non, _, h => h
  | .bl _, _, h => h
  | .int _, _, h => h
  | .str _, _, h => h
  | .ty _, _, h => h
  | .adr _, _, h => h
  | .tup _, _, ⟨a, _, h, _⟩ => ⟨a, h⟩
  | .lst _, _, ⟨a, _, h, _⟩ => ⟨a, h⟩
  | .ktup _, _, ⟨a, _, h, _⟩ => ⟨a, h⟩
  | .scr _, _, ⟨a, h, _⟩ => ⟨a, h⟩
  | .obj _ _ _, _, ⟨a, _, _, h, _⟩ => ⟨a, h⟩
  | .dic _ _, _, ⟨a, _, h, _⟩ => ⟨a, h⟩
  | .dil _ _, _, ⟨a, _, h, _⟩ => ⟨a, h⟩
  | .dit _ _, _, ⟨a, _, h, _⟩ => ⟨a, h⟩
  | .rf, _, h => h
def lkD : D → D
  | .dic ks ds => .dil ks ds
  | d => d
/-- of an object's fields: the j-th is the dict -/
def lkAt : Nat → List D → List D
  | _, [] => []
  | 0, d :: ds => lkD d :: ds.map D.wk
  | j + 1, d :: ds => d.wk :: lkAt j ds
def wkS : Slot → Slot
  | .val d => .val d.wk
  | _ => .no
def lkO (j : Nat) : Slot → Slot
  | .val (.obj C ns os) => .val (.obj C ns (lkAt j os))
  | _ => .no
/-- the slots while the dict in field j of slot i is locked -/
def lkE : Nat → Nat → List Slot → List Slot
  | _, _, [] => []
  | 0, j, s :: r => lkO j s :: r.map wkS
  | i + 1, j, s :: r => wkS s :: lkE i j r
section
variable {F : Hp} {d : Addr} {kvs : List (Key × V)}
theorem back_ne {od : Obj} {a : Addr} {x : HO} (hd : F d = some (.frz od (.dK kvs))) (h : F a = some x) (n : ∀ o u, x ≠ .frz o u) : upd F d (.dK kvs) a = some x := by
  rw [upd_ne (fun z => by rw [z, hd] at h; cases h; exact n _ _ rfl)]; exact h
mutual
/-- what holds of the locked heap holds of the unlocked -/
theorem rep_unlk {od : Obj} (hd : F d = some (.frz od (.dK kvs))) : ∀ (x : D) (v : V), x.nolk = true → Rep K F x v → Rep K (upd F d (.dK kvs)) x v
  | .non, _, _, h => h
  | .bl _, _, _, h => h
  | .int _, _, _, h => h
  | .str _, _, _, h => h
  | .ty _, _, _, h => h
  | .adr _, _, _, h => h
  | .rf, _, _, h => h
  | .tup ds, v, n, ⟨a, vs, h1, h2, h3⟩ => ⟨a, vs, h1, back_ne hd h2 (fun _ _ z => nomatch z), reps_unlk hd ds vs n h3⟩
  | .lst ds, v, n, ⟨a, vs, h1, h2, h3⟩ => ⟨a, vs, h1, back_ne hd h2 (fun _ _ z => nomatch z), reps_unlk hd ds vs n h3⟩
  | .ktup ds, v, n, ⟨a, vs, h1, h2, h3⟩ => ⟨a, vs, h1, by
      rcases h2 with (h2 | ⟨o, h2⟩) | h2
      · exact .inl (.inl (back_ne hd h2 (fun _ _ z => nomatch z)))
      · exact .inl (.inr ⟨o, by rw [upd_ne (fun z => by rw [z, hd] at h2; cases h2)]; exact h2⟩)
      · exact .inr h2, reps_unlk hd ds vs n h3⟩
  | .scr ns, v, n, ⟨a, h1, h2⟩ => ⟨a, h1, by
      rcases h2 with (h2 | ⟨o, h2⟩) | h2
      · exact .inl (.inl (back_ne hd h2 (fun _ _ z => nomatch z)))
      · exact .inl (.inr ⟨o, by rw [upd_ne (fun z => by rw [z, hd] at h2; cases h2)]; exact h2⟩)
      · exact .inr h2⟩
  | .obj C ns ds, v, n, ⟨a, dx, vs, h1, h2, h3, h4⟩ => ⟨a, dx, vs, h1, back_ne hd h2 (fun _ _ z => nomatch z), h3, reps_unlk hd ds vs n h4⟩
  | .dic ks ds, v, n, ⟨a, vs, h1, h2, h3, h4⟩ => ⟨a, vs, h1, back_ne hd h2 (fun _ _ z => nomatch z), h3, reps_unlk hd ds vs n h4⟩
  | .dit ks ds, v, n, ⟨a, vs, h1, h2, h3, h4⟩ => ⟨a, vs, h1, back_ne hd h2 (fun _ _ z => nomatch z), h3, reps_unlk hd ds vs n h4⟩
  | .dil _ _, _, n, _ => nomatch n
theorem reps_unlk {od : Obj} (hd : F d = some (.frz od (.dK kvs))) : ∀ (ds : List D) (vs : List V), D.nolks ds = true → RepL K F ds vs → RepL K (upd F d (.dK kvs)) ds vs
  | [], _, _, h => h
  | x :: ds, vs, n, ⟨w, ws, h1, h2, h3⟩ => by
    have n : (x.nolk && D.nolks ds) = true := n
    have n := Bool.and_eq_true_iff.mp n
    exact ⟨w, ws, h1, rep_unlk hd x w n.1 h2, reps_unlk hd ds ws n.2 h3⟩
end
/-- .. and of what is locked: all but the thing itself is seen weakly -/
theorem reps_wk {F F' : Hp} : ∀ {ds : List D} {vs : List V}, RepL K F ds vs → RepL K F' (ds.map D.wk) vs
  | [], _, h => h
  | d :: ds, _, ⟨w, ws, h1, h2, h3⟩ => ⟨w, ws, h1, wk_rep h2, reps_wk h3⟩
end
theorem rep_dep {F F' : Hp} {ds : List D} {vs : List V} (h : RepL K F ds vs) (e : ∀ x ∈ ds, ∀ v, Rep K F x v → Rep K F' x v) : RepL K F' ds vs := by
  induction ds generalizing vs with
  | nil => exact h
  | cons d ds ih =>
    obtain ⟨w, ws, h1, h2, h3⟩ := h
    exact ⟨w, ws, h1, e d List.mem_cons_self w h2, ih h3 fun x hx => e x (List.mem_cons_of_mem _ hx)⟩
/-- what the dict holds must be told without the locked dict: flat things, tuples of flat things -/
def D.flat2 : D → Bool
  | .tup ds => ds.all D.flat
  | d => d.flat
theorem flat2_lk {F : Hp} {d : Addr} {u : HO} {od : Obj} {kvs : List (Key × V)} (hd : F d = some (.dK kvs)) {x : D} {v : V} (n : x.flat2 = true) (h : Rep K F x v) : Rep K (upd F d (.frz od u)) x v := by
  cases x with
  | tup ds =>
    obtain ⟨a, vs, h1, h2, h3⟩ := h
    refine ⟨a, vs, h1, ?_, ?_⟩
    · rw [upd_ne (fun z => by rw [z, hd] at h2; cases h2)]; exact h2
    · exact rep_dep h3 fun x hx v hv => flat_rep (List.all_eq_true.mp n x hx) hv
  | non => exact flat_rep n h
  | bl _ => exact flat_rep n h
  | int _ => exact flat_rep n h
  | str _ => exact flat_rep n h
  | ty _ => exact flat_rep n h
  | adr _ => exact flat_rep n h
  | lst _ => cases n
  | ktup _ => cases n
  | scr _ => cases n
  | obj _ _ _ => cases n
  | dic _ _ => cases n
  | dil _ _ => cases n
  | dit _ _ => cases n
  | rf => cases n
theorem lkAt_rep {F : Hp} {d : Addr} {od : Obj} {ks : List Key} {ds : List D} {vs : List V} (hd : F d = some (.dK (ks.zip vs))) (hl : ks.length = vs.length) (hr : RepL K F ds vs) (hf : ds.all D.flat2 = true) : ∀ {os : List D} {ws : List V} {j : Nat}, RepL K F os ws → os[j]? = some (.dic ks ds) → ws[j]? = some (.ref d) →
    RepL K (upd F d (.frz od (.dK (ks.zip vs)))) (lkAt j os) ws
  | [], ws, j, h, h1, h2 => by simp at h1
  | o :: os, _, 0, ⟨w, ws, rfl, h3, h4⟩, h1, h2 => by
    have h1 : o = .dic ks ds := by simpa using h1
    have h2 : w = .ref d := by simpa using h2
    subst h1 h2
    exact ⟨_, _, rfl, ⟨d, vs, rfl, ⟨od, upd_same⟩, hl, rep_dep hr fun x hx v hv => flat2_lk hd (List.all_eq_true.mp hf x hx) hv⟩, reps_wk h4⟩
  | o :: os, _, j + 1, ⟨w, ws, rfl, h3, h4⟩, h1, h2 => ⟨w, ws, rfl, wk_rep h3, lkAt_rep hd hl hr hf h4 (by simpa using h1) (by simpa using h2)⟩
theorem lkE_len : ∀ (i j : Nat) (env : List Slot), (lkE i j env).length = env.length
  | i, _, [] => by cases i <;> rfl
  | 0, j, s :: r => by simp [lkE]
  | i + 1, j, s :: r => by simp [lkE, lkE_len i j r]
theorem lkE_get : ∀ {i j : Nat} {env : List Slot} {k : Nat} {s : Slot}, (lkE i j env)[k]? = some s → (k = i ∧ ∃ t, env[k]? = some t ∧ s = lkO j t) ∨ (k ≠ i ∧ ∃ t, env[k]? = some t ∧ s = wkS t)
  | i, j, [], k, s, h => by
    have : lkE i j [] = [] := by cases i <;> rfl
    rw [this] at h; simp at h
  | 0, j, t :: r, 0, s, h => .inl ⟨rfl, t, rfl, by simpa [lkE] using h.symm⟩
  | 0, j, t :: r, k + 1, s, h => by
    have h : (r.map wkS)[k]? = some s := by simpa [lkE] using h
    rw [List.getElem?_map] at h
    obtain ⟨t', h1, h2⟩ := Option.map_eq_some_iff.mp h
    exact .inr ⟨by omega, t', by simpa using h1, h2.symm⟩
  | i + 1, j, t :: r, 0, s, h => .inr ⟨by omega, t, rfl, by simpa [lkE] using h.symm⟩
  | i + 1, j, t :: r, k + 1, s, h => by
    rcases lkE_get (i := i) (j := j) (env := r) (k := k) (s := s) (by simpa [lkE] using h) with ⟨h1, h2⟩ | ⟨h1, h2⟩
    · exact .inl ⟨by omega, by simpa using h2⟩
    · exact .inr ⟨by omega, by simpa using h2⟩
theorem own_unlk {β : Type} {ψ : β → D} {F H H' : Hp} {d : Addr} {od : Obj} {kvs : List (Key × V)} (hd : F d = some (.frz od (.dK kvs))) (hψ : ∀ y, (ψ y).nolk = true) : ∀ {ys : List β} {cs : List AD}, RepAs K F H (ys.map fun a => OD.val (ψ a)) cs → RepAs K (upd F d (.dK kvs)) H' (ys.map fun a => OD.val (ψ a)) cs
  | [], _, h => h
  | y :: ys, _, ⟨c, cs, h0, ⟨v, h1, hv⟩, h4⟩ => ⟨c, cs, h0, ⟨v, h1, rep_unlk hd _ _ (hψ y) hv⟩, own_unlk hd hψ h4⟩
/-- a comprehension over the keys of the dict in field j of slot i -/
theorem ew_lock {env : List Slot} {i j : Nat} {te : TE} {β : Type} {ψ : β → D} {ys : List β} {C : Addr} {ns : List Str} {os : List D} {ks : List Key} {ds : List D} (hi : env[i]? = some (.val (.obj C ns os))) (hj : os[j]? = some (.dic ks ds)) (hf : ds.all D.flat2 = true) (hψ : ∀ y, (ψ y).nolk = true)
    (h : EvW K [] te (lkE i j env) (odL ψ ys) (lkE i j env)) : EvW K M (tLockE te) env (odL ψ ys) env := fun B F H σ T r Q q => by
  obtain ⟨v, hv1, hv2⟩ := r.val i _ hi
  obtain ⟨a, dx, ws, rfl, ha, hl, hr⟩ := hv2
  obtain ⟨w, hw, d, vs, rfl, hd, hlk, hrd⟩ := hr.get hj
  have hdH := r.fh _ _ hd
  refine ⟨d, .dK (ks.zip vs), hdH, trivial, fun od => ?_⟩
  generalize hu : (HO.dK (ks.zip vs)) = u at hd hdH
  have fl : Ex (upd F d (.frz od u)) (upd H d (.frz od u)) := fun b x hb => by
    by_cases z : b = d
    · subst z; rw [upd_same] at hb ⊢; exact hb
    · rw [upd_ne z] at hb ⊢; exact r.fh _ _ hb
  have r1 : RepS K (upd H d (.frz od u)) (upd F d (.frz od u)) (upd H d (.frz od u)) σ (lkE i j env) T := by
    refine ⟨.refl _, fl, fun k x hk => ?_, fun k o hk => ?_, fun k k' o o' b hk => ?_, by rw [lkE_len]; exact r.len⟩
    · rcases lkE_get hk with ⟨rfl, t, ht, e⟩ | ⟨hne, t, ht, e⟩
      · rw [hi] at ht
        cases ht
        have e : x = .obj C ns (lkAt j os) := by simpa [lkO] using e
        subst e
        refine ⟨.ref a, hv1, a, dx, ws, rfl, ?_, hl, ?_⟩
        · rw [upd_ne (fun z => by rw [z, hd] at ha; subst hu; cases ha)]; exact ha
        · subst hu
          exact lkAt_rep hd hlk hrd hf hr hj hw
      · cases t with
        | no => cases e
        | own o => cases e
        | val y =>
          have e : x = y.wk := by simpa [wkS] using e
          subst e
          obtain ⟨v, h1, h2⟩ := r.val k y ht
          exact ⟨v, h1, wk_rep h2⟩
    · rcases lkE_get hk with ⟨rfl, t, ht, e⟩ | ⟨hne, t, ht, e⟩
      · rw [hi] at ht; cases ht; cases e
      · cases t with
        | no => cases e
        | own o => cases e
        | val y => cases e
    · rcases lkE_get hk with ⟨rfl, t, ht, e⟩ | ⟨hne, t, ht, e⟩
      · rw [hi] at ht; cases ht; cases e
      · cases t with
        | no => cases e
        | own o => cases e
        | val y => cases e
  refine h _ _ _ σ T r1 _ fun t F1 H1 T1 r2 g2 k2 ra nd hn dj => ?_
  have hd1 : H1 d = some (.frz od u) := r2.bh _ _ upd_same
  have hdF1 : F1 d = some (.frz od u) := g2.f _ _ upd_same
  refine ⟨hd1, ?_⟩
  have old : ∀ b x, H b = some x → upd H1 d u b = some x := fun b x hb => by
    by_cases z : b = d
    · subst z; rw [upd_same]; rw [hdH] at hb; exact hb
    · rw [upd_ne z]; exact r2.bh _ _ (by rw [upd_ne z]; exact hb)
  have up : Up F H (upd F1 d u) (upd H1 d u) := by
    refine ⟨old, fun b x hb => ?_, fun b x hb => ?_, fun p hp hh => ?_⟩
    · by_cases z : b = d
      · subst z; rw [upd_same]; rw [hd] at hb; exact hb
      · rw [upd_ne z]; exact g2.f _ _ (by rw [upd_ne z]; exact hb)
    · by_cases z : b = d
      · subst z; rw [upd_same] at hb ⊢; exact hb
      · rw [upd_ne z] at hb ⊢; exact r2.fh _ _ hb
    · have z : p ≠ d := fun z => by rw [z, hd] at hp; cases hp
      rw [upd_ne z]
      exact g2.no p (by rw [upd_ne z]; exact hp) (by rw [upd_ne z]; exact hh)
  have fresh : ∀ b ∈ t.fp, H b = none ∧ b ≠ d := fun b hb => by
    have h1 := (hn b hb).1
    have z : b ≠ d := fun z => by rw [z, upd_same] at h1; cases h1
    rw [upd_ne z] at h1
    exact ⟨h1, z⟩
  have ra2 : RepA K (upd F1 d u) (upd H1 d u) (odL ψ ys) t := by
    obtain ⟨b, cs, rfl, h1, h2⟩ := ra
    refine ⟨b, cs, rfl, ?_, ?_⟩
    · rw [upd_ne (fresh b (by simp [AD.fp])).2]; exact h1
    · subst hu
      exact own_unlk hdF1 hψ h2
  refine q t _ _ T (r.up up) (.of_up r.bh up) .refl ra2 nd (fun b hb => ⟨?_, ?_⟩) fun k o b hk hb hc => ?_
  · cases hB : B b with
    | none => rfl
    | some x => have := r.bh _ _ hB; rw [(fresh b hb).1] at this; cases this
  · rw [upd_ne (fresh b hb).2]; exact (hn b hb).2
  · obtain ⟨x, hx⟩ := RepA.live o _ (r.own k o hk).2.1 b hc
    rw [(fresh b hb).1] at hx; cases hx
/-- its keys -/
theorem it_keysL {td : TE} {env env1 : List Slot} {ks : List Key} {ds : List D} (h : Ev K M td env (.dil ks ds) env1) : It K M (iKeys td) env (ks.map kD) env1 Free := fun B F H σ T s R q =>
  h B F H σ T s _ fun v F1 H1 T1 s1 g1 k1 ⟨a, vs, hx, ⟨o, ha⟩, hl, hr⟩ => ⟨a, o, hx, .inl ⟨_, s1.fh _ _ ha, q _ F1 H1 T1 s1 g1 k1 fun B F H σ e T r _ x => by
    have hh : H a = some (.frz o (.dK (ks.zip vs))) := r.fh _ _ (x _ _ ha)
    have hz : (ks.zip vs).length = ks.length := by rw [List.length_zip]; omega
    refine ⟨fun i hi => ⟨hh, by rw [hz]; simpa using hi⟩, ⟨hh, by rw [hz]; simp⟩, fun i d y H' hd hy => ?_⟩
    obtain ⟨e1, k, v, hkv, e2⟩ := hy
    subst e1 e2
    rw [List.getElem?_map] at hd
    obtain ⟨k', hk', rfl⟩ := Option.map_eq_some_iff.mp hd
    have := (List.getElem?_zip_eq_some.mp hkv).1
    rw [hk'] at this
    cases this
    refine ⟨F, .refl r.fh, ?_⟩
    cases k <;> rfl⟩⟩
theorem d_ixL' {ks : List Key} {ds : List D} {k : Key} {d : D} (h : dlk ks ds k = some d) : R2D K (uIx K) (.dil ks ds) (kD k) d := fun F H x y e ⟨a, vs, hx, ⟨o, ha⟩, hl, ra⟩ hy Q q => by
  obtain ⟨v, hv, rv⟩ := zip_val ra h
  exact .inr ⟨a, v, hx, .inl ⟨_, k, .inr ⟨o, e _ _ ha⟩, rep_kD hy, hv.symm⟩, q v F H (.refl e) rv⟩
section
variable {α β : Type} [DecidableEq α] {κ : α → Key} {φ : β → D} {m : List (α × β)} {k : α} {v : β}
abbrev mL (κ : α → Key) (φ : β → D) (m : List (α × β)) : D := .dil (m.map fun p => κ p.1) (m.map fun p => φ p.2)
theorem ty_ixML (hκ : ∀ a b, κ a = κ b → a = b) (h : mGet m k = some v) : R2D K (uIx K) (mL κ φ m) (kD (κ k)) (φ v) := d_ixL' (by rw [dlk_map hκ, h]; rfl)
theorem it_keysM {td : TE} {env env1 : List Slot} {χ : α → D} (hχ : ∀ a, kD (κ a) = χ a) (h : Ev K M td env (mL κ φ m) env1) : It K M (iKeys td) env ((m.map Prod.fst).map χ) env1 Free := by
  have := it_keysL h
  rw [List.map_map] at this
  rw [List.map_map, show (χ ∘ Prod.fst : α × β → D) = kD ∘ fun p => κ p.1 from funext fun p => (hχ p.1).symm]
  exact this
end
end Dm
namespace Dm
theorem all_flat2 {α β : Type} {φ : β → D} (h : ∀ b, (φ b).flat2 = true) {m : List (α × β)} : (m.map fun p => φ p.2).all D.flat2 = true := by
  rw [List.all_map]; exact List.all_eq_true.mpr fun p _ => h p.2
end Dm

set_option Elab.async false
set_option linter.all false
set_option maxRecDepth 100000
set_option maxHeartbeats 4000000
set_option autoImplicit false
/-! Dz: what the functions give, in plain Lean. -/
namespace Dm
open PySem L2 Evl StX PyProof.Rows
theorem lcP_eq {α β : Type} {c : α → Option Bool} {v : α → Option β} (p : α → Bool) (f : α → β) : ∀ {l : List α}, (∀ x ∈ l, c x = some (p x)) → (∀ x ∈ l, p x = true → v x = some (f x)) → lcP c v l = some ((l.filter p).map f)
  | [], _, _ => rfl
  | x :: xs, hc, hv => by
    have ih := lcP_eq p f (l := xs) (fun y hy => hc y (List.mem_cons_of_mem _ hy)) (fun y hy => hv y (List.mem_cons_of_mem _ hy))
    rw [lcP, hc x List.mem_cons_self, Option.bind_some]
    cases hp : p x with
    | true =>
      rw [if_pos rfl, hv x List.mem_cons_self hp, Option.bind_some, ih, Option.map_some, List.filter_cons, hp, if_pos rfl, List.map_cons]
    | false =>
      rw [if_neg Bool.false_ne_true, ih, List.filter_cons, hp, if_neg Bool.false_ne_true]
theorem lcM_eq {α β : Type} {c : α → Option Bool} {v : α → Option β} (p : α → Bool) (f : α → β) {l : List α} (hl : l.length ≤ 90000) (hc : ∀ x ∈ l, c x = some (p x)) (hv : ∀ x ∈ l, p x = true → v x = some (f x)) : lcM c v l = some ((l.filter p).map f) := by
  unfold lcM; rw [if_pos hl]; exact lcP_eq p f hc hv
theorem lcM_map {α β : Type} {v : α → Option β} (f : α → β) {l : List α} (hl : l.length ≤ 90000) (hv : ∀ x ∈ l, v x = some (f x)) : lcM (fun _ => some true) v l = some (l.map f) := by
  rw [lcM_eq (fun _ => true) f hl (fun _ _ => rfl) fun x hx _ => hv x hx]
  rw [List.filter_eq_self.mpr fun _ _ => rfl]
theorem lcM_filter {α : Type} {c : α → Option Bool} (p : α → Bool) {l : List α} (hl : l.length ≤ 90000) (hc : ∀ x ∈ l, c x = some (p x)) : lcM c (fun x => some x) l = some (l.filter p) := by
  exact (lcM_eq p id hl hc fun x _ _ => rfl).trans (by rw [List.map_id])
/-- of what is known only to be there -/
theorem lcP_ex {α β : Type} {v : α → Option β} (R : α → β → Prop) : ∀ {l : List α}, (∀ x ∈ l, ∃ y, v x = some y ∧ R x y) → ∃ ys, lcP (fun _ => some true) v l = some ys ∧ ys.length = l.length ∧ ∀ (i : Nat) (x : α) (y : β), l[i]? = some x → ys[i]? = some y → R x y
  | [], _ => ⟨[], rfl, rfl, fun i x y h => by simp at h⟩
  | x :: xs, h => by
    obtain ⟨y, hy, hr⟩ := h x List.mem_cons_self
    obtain ⟨ys, e, hl, hR⟩ := lcP_ex R (l := xs) fun z hz => h z (List.mem_cons_of_mem _ hz)
    refine ⟨y :: ys, by rw [lcP, Option.bind_some, if_pos rfl, hy, Option.bind_some, e]; rfl, by simp [hl], fun i a b ha hb => ?_⟩
    cases i with
    | zero => simp at ha hb; subst ha hb; exact hr
    | succ i => exact hR i a b (by simpa using ha) (by simpa using hb)
/-- a loop: what it does -/
theorem forL_eq {α σ : Type} {body : α → σ → Option σ} (g : σ → α → σ) (I : σ → Prop) : ∀ {l : List α} {s : σ}, I s → (∀ x ∈ l, ∀ s, I s → body x s = some (g s x) ∧ I (g s x)) → forL body l s = some (l.foldl g s)
  | [], s, _, _ => rfl
  | x :: xs, s, h, hs => by
    obtain ⟨h1, h2⟩ := hs x List.mem_cons_self s h
    rw [forL, h1, Option.bind_some, List.foldl_cons]
    exact forL_eq g I h2 fun y hy => hs y (List.mem_cons_of_mem _ hy)
/-- a loop with what holds behind each turn -/
theorem forL_ex {α σ : Type} {body : α → σ → Option σ} (I : Nat → σ → Prop) : ∀ {l : List α} {k : Nat} {s : σ}, I k s → (∀ (i : Nat) (x : α) (s : σ), l[i]? = some x → I (k + i) s → ∃ s', body x s = some s' ∧ I (k + i + 1) s') → ∃ s', forL body l s = some s' ∧ I (k + l.length) s'
  | [], k, s, h, _ => ⟨s, rfl, h⟩
  | x :: xs, k, s, h, hs => by
    obtain ⟨s1, h1, h2⟩ := hs 0 x s rfl h
    obtain ⟨s2, h3, h4⟩ := forL_ex I (l := xs) (k := k + 1) (s := s1) h2 fun i y t hy ht => by
      have := hs (i + 1) y t (by simpa using hy) (by rw [show k + (i + 1) = k + 1 + i by omega]; exact ht)
      rwa [show k + (i + 1) + 1 = k + 1 + i + 1 by omega] at this
    refine ⟨s2, by rw [forL, h1, Option.bind_some, h3], ?_⟩
    rw [List.length_cons, show k + (xs.length + 1) = k + 1 + xs.length by omega]
    exact h4
/-- a loop that never leaves -/
theorem forC_ex {α ρ σ : Type} {body : α → σ → Option (Ctl ρ σ)} (I : Nat → σ → Prop) : ∀ {l : List α} {k : Nat} {s : σ}, I k s → (∀ (i : Nat) (x : α) (s : σ), l[i]? = some x → I (k + i) s → ∃ s', body x s = some (.nx s') ∧ I (k + i + 1) s') → ∃ s', forC body l s = some (.nx s') ∧ I (k + l.length) s'
  | [], k, s, h, _ => ⟨s, rfl, h⟩
  | x :: xs, k, s, h, hs => by
    obtain ⟨s1, h1, h2⟩ := hs 0 x s rfl h
    obtain ⟨s2, h3, h4⟩ := forC_ex I (l := xs) (k := k + 1) (s := s1) h2 fun i y t hy ht => by
      have := hs (i + 1) y t (by simpa using hy) (by rw [show k + (i + 1) = k + 1 + i by omega]; exact ht)
      rwa [show k + (i + 1) + 1 = k + 1 + i + 1 by omega] at this
    refine ⟨s2, by rw [forC, h1, Option.bind_some]; exact h3, ?_⟩
    rw [List.length_cons, show k + (xs.length + 1) = k + 1 + xs.length by omega]
    exact h4
/-- a comprehension that changes things -/
theorem lcS_ex {α β σ : Type} {f : α → σ → Option (Option β × σ)} (I : Nat → σ → Prop) (R : β → Prop) {l : List α} {s : σ} (hl : l.length ≤ 90000) (h0 : I 0 s)
    (hs : ∀ (i : Nat) (x : α) (s : σ), l[i]? = some x → I i s → ∃ y s', f x s = some (some y, s') ∧ R y ∧ I (i + 1) s') : ∃ ys s', lcS f l s = some (ys, s') ∧ ys.length = l.length ∧ (∀ y ∈ ys, R y) ∧ I l.length s' := by
  have gen : ∀ {l : List α} {k : Nat} {s : σ}, I k s → (∀ (i : Nat) (x : α) (s : σ), l[i]? = some x → I (k + i) s → ∃ y s', f x s = some (some y, s') ∧ R y ∧ I (k + i + 1) s') → ∃ ys s', lcG f l s = some (ys, s') ∧ ys.length = l.length ∧ (∀ y ∈ ys, R y) ∧ I (k + l.length) s' := by
    intro l
    induction l with
    | nil => intro k s h _; exact ⟨[], s, rfl, rfl, by simp, h⟩
    | cons x xs ih =>
      intro k s h hs
      obtain ⟨y, s1, h1, hr, h2⟩ := hs 0 x s rfl h
      obtain ⟨ys, s2, h3, hl, hR, h4⟩ := ih (k := k + 1) (s := s1) h2 fun i y t hy ht => by
        have := hs (i + 1) y t (by simpa using hy) (by rw [show k + (i + 1) = k + 1 + i by omega]; exact ht)
        rwa [show k + (i + 1) + 1 = k + 1 + i + 1 by omega] at this
      refine ⟨y :: ys, s2, by rw [lcG, h1, Option.bind_some, h3]; rfl, by simp [hl], fun z hz => ?_, ?_⟩
      · rcases List.mem_cons.mp hz with rfl | hz
        · exact hr
        · exact hR z hz
      · rw [List.length_cons, show k + (xs.length + 1) = k + 1 + xs.length by omega]
        exact h4
  obtain ⟨ys, s', h1, h2, h3, h4⟩ := gen (l := l) (k := 0) h0 fun i x s hx hi => by
    rw [Nat.zero_add] at hi ⊢; exact hs i x s hx hi
  refine ⟨ys, s', by unfold lcS; rw [if_pos hl]; exact h1, h2, h3, ?_⟩
  rwa [Nat.zero_add] at h4
/-! sizes -/
theorem log_le {x : Int} {k : Nat} (h0 : 0 ≤ x) (h : x < ((2 ^ (k + 1) : Nat) : Int)) : x.natAbs.log2 ≤ k := by
  have hx : x.natAbs < 2 ^ (k + 1) := by
    generalize (2 : Nat) ^ (k + 1) = z at h ⊢
    omega
  rcases Nat.eq_zero_or_pos x.natAbs with e | e
  · rw [e]; simp
  · have := (Nat.log2_lt (by omega)).mpr hx
    omega
/-- at most 2^62 -/
def Sm (i : Int) : Prop := -4611686018427387904 ≤ i ∧ i ≤ 4611686018427387904
theorem log_sm {i : Int} (h : Sm i) : i.natAbs.log2 ≤ 62 := by
  rcases Nat.eq_zero_or_pos i.natAbs with e | e
  · rw [e]; simp
  · have : i.natAbs < 2 ^ 63 := by unfold Sm at h; omega
    have := (Nat.log2_lt (by omega)).mpr this
    omega
theorem mul_ok {a b : Int} (ha : Sm a) (hb : Sm b) : pyMul a b = some (a * b) := by
  have := log_sm ha; have := log_sm hb
  unfold pyMul; rw [if_pos (by omega)]
theorem div_ok {a b : Int} (h : 0 < b) (hb : Sm b) : pyDiv a b = some (a / b) := by
  have := log_sm hb
  unfold pyDiv; rw [if_pos ⟨h, by omega⟩]
theorem mod_ok {a b : Int} (h : 0 < b) : pyMod a b = some (a % b) := by unfold pyMod; rw [if_pos h]
theorem pow_ok {a : Int} {b : Int} (h0 : 0 ≤ b) (h1 : (Builtin.Int.intBits a : Int) * b ≤ 2 ^ 27) : pyPow a b = some (a ^ b.toNat) := by unfold pyPow; rw [if_pos ⟨h0, h1⟩]
theorem str_ok {a : Int} (h : Sm a) : pyStr a = some (Str.ofString (toString a)) := by
  have := log_sm h
  unfold pyStr; rw [if_pos (by omega)]
theorem rng_ok {n : Int} (h : Sm n) (h2 : n < 2 ^ 60) (h3 : -(2 ^ 60) < n) : pyRng n = some (rngI n) := by unfold pyRng; rw [if_pos ⟨h2, h3⟩]
theorem ix_nat {α : Type} {xs : List α} {i : Nat} {x : α} (h : xs[i]? = some x) : pyIx xs (i : Nat) = some x := atI_nat h
theorem pyEq_self {d : D} (h1 : d.pure = true) (h2 : SeqAt.shaped d.py = true) : pyEq d d = some (PyData.eqv d.py d.py) := by unfold pyEq; rw [h1, h2]; rfl
theorem bits_sm {a b : Int} (ha : Sm a) (h0 : 0 ≤ b) (h1 : b ≤ 1000) : (Builtin.Int.intBits a : Int) * b ≤ 2 ^ 27 := by
  have h := log_sm ha
  have e : (Builtin.Int.intBits a : Int) ≤ 64 := by
    unfold Builtin.Int.intBits
    split <;> omega
  have h2 : (0 : Int) ≤ Builtin.Int.intBits a := by omega
  have := Int.mul_le_mul e h1 h0 (by omega)
  omega
theorem powS {a b : Int} (ha : Sm a) (h0 : 0 ≤ b) (h1 : b ≤ 1000) : pyPow a b = some (a ^ b.toNat) := pow_ok h0 (bits_sm ha h0 h1)
/-! min, max, index, len -/
theorem min_ok {l : List Int} (h : l ≠ []) : pyMin l = some (mnL l) := by unfold pyMin; rw [if_pos h]
theorem max_ok {l : List Int} (h : l ≠ []) : pyMax l = some (mxL l) := by unfold pyMax; rw [if_pos h]
theorem index_ok {α : Type} [DecidableEq α] {l : List α} {x : α} (h : x ∈ l) : pyIndex l x = some (l.idxOf x : Int) := by unfold pyIndex; rw [if_pos h]
theorem lenS_ok {z : Str} (h : z.length ≤ 100000) : pyLenS z = some (z.length : Int) := by unfold pyLenS; rw [if_pos h]
theorem cat_ok {α : Type} {xs ys : List α} (h : xs.length + ys.length ≤ 100000) : pyCat xs ys = some (xs ++ ys) := by unfold pyCat; rw [if_pos h]
theorem catS_ok {xs ys : Str} (h : xs.length + ys.length ≤ 1000000) : pyCatS xs ys = some (xs ++ ys) := by unfold pyCatS; rw [if_pos h]
theorem sz_ok {α : Type} {xs : List α} (h : xs.length ≤ 100000) : pySz xs = some xs := by unfold pySz; rw [if_pos h]
theorem app_ok {α : Type} {xs : List α} {x : α} (h : xs.length < 100000) : pyApp xs x = some (xs ++ [x]) := by unfold pyApp; rw [if_pos h]
theorem ext_ok {α : Type} {xs ys : List α} (h : xs.length + ys.length ≤ 100000) : pyExt xs ys = some (xs ++ ys) := by unfold pyExt; rw [if_pos h]
theorem lrng_ok {n : Int} (h : 0 ≤ n) (h2 : n ≤ 100000) : pyLRng n = some (rngI n) := by unfold pyLRng; rw [if_pos ⟨h, h2⟩]
theorem set_ok {α : Type} {xs : List α} {x : α} {k : Nat} (h : k < xs.length) : pySetL xs (k : Nat) x = some (xs.set k x) := by
  unfold pySetL
  rw [show ixN xs.length ((k : Nat) : Int) = some k by unfold ixN; simp; omega]
  simp [h]
theorem rngI_len {n : Int} : (rngI n).length = n.toNat := by simp [rngI]
theorem mem_rngI {n x : Int} : x ∈ rngI n ↔ 0 ≤ x ∧ x < n := by
  unfold rngI
  rw [List.mem_map]
  constructor
  · rintro ⟨i, hi, rfl⟩
    have : i < n.toNat := by simpa using hi
    omega
  · rintro ⟨h1, h2⟩
    exact ⟨x.toNat, by simp; omega, by omega⟩
/-! == -/
theorem eq_ok {x y : D} (h1 : x.pure = true) (h2 : y.pure = true) (h3 : SeqAt.shaped x.py = true) (h4 : SeqAt.shaped y.py = true) : pyEq x y = some (PyData.eqv x.py y.py) := by unfold pyEq; rw [h1, h2, h3, h4]; rfl
theorem eq_ti {xs ys : List Int} : pyEq (.tup (xs.map .int)) (.tup (ys.map .int)) = some (decide (xs = ys)) := by
  have sh : ∀ xs : List Int, SeqAt.shaped (D.py (.tup (xs.map .int))) = true := fun xs => by rw [D.py, pys_ints, SeqAt.shaped, PyData.canLay0, PyData.depth, dep_ints, lay_ints]; rfl
  rw [eq_ok (by exact pures_ints) (by exact pures_ints) (sh _) (sh _), D.py, D.py, PyData.eqv, pys_ints, pys_ints, eqvAll_ints]
theorem eq_li {xs ys : List Int} : pyEq (.lst (xs.map .int)) (.lst (ys.map .int)) = some (decide (xs = ys)) := by
  have sh : ∀ xs : List Int, SeqAt.shaped (D.py (.lst (xs.map .int))) = true := fun xs => by rw [D.py, pys_ints, SeqAt.shaped, PyData.canLay0, PyData.depth, dep_ints, lay_ints]; rfl
  rw [eq_ok (by exact pures_ints) (by exact pures_ints) (sh _) (sh _), D.py, D.py, PyData.eqv, pys_ints, pys_ints, eqvAll_ints]
theorem eq_t2 {a b c d : Int} : pyEq (.tup [.int a, .int b]) (.tup [.int c, .int d]) = some (decide (a = c ∧ b = d)) := by
  have := eq_ti (xs := [a, b]) (ys := [c, d])
  simpa using this
theorem eq_i {a b : Int} : pyEq (.int a) (.int b) = some (decide (a = b)) := by
  rw [eq_ok rfl rfl rfl rfl]; exact congrArg some eqv_int
end Dm

set_option Elab.async false
set_option linter.all false
set_option maxRecDepth 100000
set_option maxHeartbeats 4000000
set_option autoImplicit false
/-! Dn: the last words. -/
namespace Dm
open PySem L2 Evl StX PyProof.Rows
theorem Fun.ne {K : PySem.W.Frag} {x y : Str} {st st' : Stmt} {f : Addr} {fd fd' : FuncData} (F : Fun K x x st f fd) (F' : Fun K y y st' f fd') (h : x ≠ y) : False := by
  obtain ⟨oc, od, kV, doc, pm, an, cdv, ct, osl, rfl, lk, hcd⟩ := F.ex
  obtain ⟨oc', od', kV', doc', pm', an', cdv', ct', osl', rfl, lk', hcd'⟩ := F'.ex
  rw [lk] at lk'
  have := Option.some.inj lk'
  injection this with h1 h2 h3 h4
  injection h3 with h5
  exact h (congrArg FuncData.name h5)
theorem Df.held {P : Program} {w : World} {K : PySem.W.Frag} {mg : Str → Option Value} {base : Heap} {x : Str} {k : Nat} {ps : List Str} {sp : Sp} {f : Addr} (D : Df P w K mg base x k ps sp) (hm : mg x = some (.ref f)) : Held P w K mg base k f sp := by
  obtain ⟨f', fd, F, hm', hk, hb⟩ := D.ex
  rw [hm] at hm'
  cases hm'
  exact ⟨fd, ps, F, hk, hb⟩
/-- a property of a class -/
def PropAt (K : PySem.W.Frag) (C : Addr) (m qual : Str) (st : Stmt) : Prop := ∃ f p fd, Fun K m qual st f fd ∧ PropOf K C m p f
theorem mkProp {K : PySem.W.Frag} {C : Addr} {m qual : Str} {st : Stmt} {f p : Addr} {rest : List Value} {oc : Value} {od an : Option Addr} {osl : Array (Option Value)} {kV doc pm cdv ct : Value}
    (a : PySem.W.findIn K (.ref C) m = some (some (.ref p))) (g : PySem.W.specialIn K (.ref p) "__get__" = some (some (.builtin "property.__get__"))) (t : PySem.W.takesIn K (.ref p) = some true) (r : PySem.W.recIn K p "property" = some (.ref f :: rest))
    (l : K.lookup f = some ⟨oc, od, .func (PySem.W.fnOf m qual (defArgs st) (defBody st) (defScope st) .none kV doc pm an cdv ct), osl⟩) (c : PySem.W.codeIn K cdv qual = true) (k : PySem.W.keepIn K (.ref f) = true) : PropAt K C m qual st :=
  ⟨f, p, _, fun_mk l c k, ⟨a, g, t, rest, r⟩⟩
theorem PropAt.dpr {P : Program} {w : World} {K : PySem.W.Frag} {mg : Str → Option Value} {base : Heap} {m qual : Str} {st : Stmt} {C : Addr} {k : Nat} {ps : List Str} {sp : Sp} (d : PropAt K C m qual st) (c : Cls K C) (ok : ∀ {f : Addr} {fd : FuncData}, Fun K m qual st f fd → FnOk P w K mg base CX0 k f fd ps sp)
    (b : ∀ (kV doc pm : Value) (an : Option Addr) (cdv ct : Value) (us : List Value), us.length = ps.length → bindArgs (PySem.W.fnOf m qual (defArgs st) (defBody st) (defScope st) .none kV doc pm an cdv ct) ⟨us, []⟩ = pure (ps.zip us)) : Dpr P w K mg base C m k ps sp := by
  obtain ⟨f, p, fd, F, hp⟩ := d
  exact ⟨f, p, fd, ok F, c, hp, F.binds b⟩
end Dm

set_option Elab.async false
set_option linter.all false
set_option maxRecDepth 100000
set_option maxHeartbeats 4000000
set_option autoImplicit false
/-! printed by gen.py: the defs' readings and what they owe -/
namespace K92
open PySem L2 Evl Dm StX PyProof.Rows
def top (i : Nat) : Stmt := PySem.Challenge.pw_palmsinturn_k92_whole_years_and_plants.main.body.getD i (.Pass ⟨0, 0, 0, 0⟩)

/-- what the top has left, but the defs -/
structure Tx (K : PySem.W.Frag) (mg : Str → Option Value) : Prop where
  c_FIGURES : Cst mg ("FIGURES" : Str) (.str ("0123456789" : Str))
  c_GROVE : Cst mg ("GROVE" : Str) (.str ("grove" : Str))
  c_LAST_DAY : Cst mg ("LAST_DAY" : Str) (.int 999)
  c_LAST_YEAR : Cst mg ("LAST_YEAR" : Str) (.int 9999)
  c_LETTERS : Cst mg ("LETTERS" : Str) (.str ("abcdefghijklmnopqrstuvwxyz" : Str))
  c_MALE : Cst mg ("MALE" : Str) (.str ("male" : Str))
  c_MOST_BASKETS : Cst mg ("MOST_BASKETS" : Str) (.int 9999)
  c_MOST_DATES : Cst mg ("MOST_DATES" : Str) (.int 99)
  c_MOST_EVERY : Cst mg ("MOST_EVERY" : Str) (.int 60)
  c_MOST_HANDS : Cst mg ("MOST_HANDS" : Str) (.int 6)
  c_MOST_KEEP : Cst mg ("MOST_KEEP" : Str) (.int 30)
  c_MOST_LOADS : Cst mg ("MOST_LOADS" : Str) (.int 20)
  c_MOST_LONG : Cst mg ("MOST_LONG" : Str) (.int 60)
  c_MOST_MALES : Cst mg ("MOST_MALES" : Str) (.int 6)
  c_MOST_PALMS : Cst mg ("MOST_PALMS" : Str) (.int 12)
  c_MOST_PLANTS : Cst mg ("MOST_PLANTS" : Str) (.int 60)
  c_MOST_SHIFTS : Cst mg ("MOST_SHIFTS" : Str) (.int 1000)
  c_MOST_SIGNS_groves : Cst mg ("MOST_SIGNS_groves" : Str) (.int 6)
  c_MOST_SIGNS_words : Cst mg ("MOST_SIGNS_words" : Str) (.int 8)
  c_MOST_TURNS : Cst mg ("MOST_TURNS" : Str) (.int 3)
  c_NEVER : Cst mg ("NEVER" : Str) (.str ("never" : Str))
  c_PALM : Cst mg ("PALM" : Str) (.str ("palm" : Str))
  c_SIXTY_bearing : Cst mg ("SIXTY_bearing" : Str) (.int 60)
  c_SIXTY_evening : Cst mg ("SIXTY_evening" : Str) (.int 60)
  c_YEAR : Cst mg ("YEAR" : Str) (.str ("year" : Str))
  b_abs : mg ("abs" : Str) = none
  b_all : mg ("all" : Str) = none
  b_bool : mg ("bool" : Str) = none
  b_enumerate : mg ("enumerate" : Str) = none
  b_int : mg ("int" : Str) = none
  b_isinstance : mg ("isinstance" : Str) = none
  b_len : mg ("len" : Str) = none
  b_list : mg ("list" : Str) = none
  b_max : mg ("max" : Str) = none
  b_min : mg ("min" : Str) = none
  b_range : mg ("range" : Str) = none
  b_sorted : mg ("sorted" : Str) = none
  b_str : mg ("str" : Str) = none
  b_sum : mg ("sum" : Str) = none
  b_tuple : mg ("tuple" : Str) = none
  b_zip : mg ("zip" : Str) = none

abbrev s_is_integer : Stmt := top 15
abbrev N_is_integer : List Str := [("value" : Str)]
theorem sc_is_integer : FnScope N_is_integer [("value" : Str)] (defScope s_is_integer) := ⟨rfl, rfl, rfl, by decide +kernel, rfl, by decide +kernel, by decide +kernel⟩
def t_is_integer (K : PySem.W.Frag) : TS :=
  (tRet ((tAndV (tCB (rIsi K) (tCons (tVar 0) (tCons (tC (.ty "int")) tNil))) (tNotV (tCB (rIsi K) (tCons (tVar 0) (tCons (tC (.ty "bool")) tNil)))))))
theorem ok_is_integer {P : Program} {w : World} {K : PySem.W.Frag} {mg : Str → Option Value} {base : Heap} {sp : Sp} (T : Tx K mg)
    (len : ∀ vs H Q E, sp vs H Q E → vs.length = 1) (hp : ∀ vs H Q E, sp vs H Q E → t_is_integer K { nx := fun _ H' => Q .non H', rt := Q } (L2.start N_is_integer vs) H)
    {f : Addr} {fd : FuncData} (F : Fun K ("is_integer" : Str) ("is_integer" : Str) s_is_integer f fd) : FnOk P w K mg base CX0 1 f fd [("value" : Str)] sp := by
  have nd := sc_is_integer.nd
  refine F.ok sc_is_integer len (fun cdv A outer s H vs Q E hr h => ⟨t_is_integer K, ?_, hp vs H Q E h⟩)
  exact (pss_one (ps_ret ((pe_and (pe_callB call_isi rfl T.b_isinstance (by decide +kernel) (pa_cons (pv 0) (pa_cons (pe_bltn rfl T.b_int (by decide +kernel) rfl) pa_nil))) (pe_one (pe_not (pe_callB call_isi rfl T.b_isinstance (by decide +kernel) (pa_cons (pv 0) (pa_cons (pe_bltn rfl T.b_bool (by decide +kernel) rfl) pa_nil)))))))))

abbrev s_is_between : Stmt := top 16
abbrev N_is_between : List Str := [("value" : Str), ("least" : Str), ("most" : Str)]
theorem sc_is_between : FnScope N_is_between [("value" : Str), ("least" : Str), ("most" : Str)] (defScope s_is_between) := ⟨rfl, rfl, rfl, by decide +kernel, rfl, by decide +kernel, by decide +kernel⟩
def t_is_between (K : PySem.W.Frag) (sp_is_integer : Sp) : TS :=
  (tRet ((tAndV (tCall sp_is_integer [] E0 (tCons (tVar 0) tNil)) (tChain (uLe) (uLe) (tVar 1) (tVar 0) (tVar 2)))))
theorem ok_is_between {P : Program} {w : World} {K : PySem.W.Frag} {mg : Str → Option Value} {base : Heap} {sp : Sp} {sp_is_integer : Sp} (T : Tx K mg) (D_is_integer : Df P w K mg base ("is_integer" : Str) 1 [("value" : Str)] sp_is_integer)
    (len : ∀ vs H Q E, sp vs H Q E → vs.length = 3) (hp : ∀ vs H Q E, sp vs H Q E → t_is_between K sp_is_integer { nx := fun _ H' => Q .non H', rt := Q } (L2.start N_is_between vs) H)
    {f : Addr} {fd : FuncData} (F : Fun K ("is_between" : Str) ("is_between" : Str) s_is_between f fd) : FnOk P w K mg base CX0 2 f fd [("value" : Str), ("least" : Str), ("most" : Str)] sp := by
  have nd := sc_is_between.nd
  refine F.ok sc_is_between len (fun cdv A outer s H vs Q E hr h => ⟨t_is_between K sp_is_integer, ?_, hp vs H Q E h⟩)
  exact (pss_one (ps_ret ((pe_and (pe_callD D_is_integer (hr.mono (by decide)) (pa_cons (pv 0) pa_nil)) (pe_one (pe_chain op_uLe op_uLe (pv 1) (pv 0) (pv 2)))))))

abbrev s_is_name : Stmt := top 17
abbrev N_is_name : List Str := [("value" : Str), ("sign" : Str)]
theorem sc_is_name : FnScope N_is_name [("value" : Str)] (defScope s_is_name) := ⟨rfl, rfl, rfl, by decide +kernel, rfl, by decide +kernel, by decide +kernel⟩
def t_is_name (K : PySem.W.Frag) : TS :=
  (tSeq (tIfS ((tOr (tNot (tB (tCB (rIsi K) (tCons (tVar 0) (tCons (tC (.ty "str")) tNil))))) (tOr (tNot (tTest (tChain (uLt) (uLe) (tC (.int 0)) (tCB (uLen K) (tCons (tVar 0) tNil)) (tC (.int 8))))) (tTest (tOp (uNi K) (tOp (uIx K) (tVar 0) (tC (.int 0))) (tC (.str ("abcdefghijklmnopqrstuvwxyz" : Str)))))))) (tRet (tC (.bl false))) tNext) (tRet (tCB (rAll K) (tCons (tLc (iAny K (tVar 0)) (gName 1) tYes ((tOrV (tOp (uIn K) (tVar 1) (tC (.str ("abcdefghijklmnopqrstuvwxyz" : Str)))) (tOp (uIn K) (tVar 1) (tC (.str ("0123456789" : Str)))))) [1]) tNil))))
theorem ok_is_name {P : Program} {w : World} {K : PySem.W.Frag} {mg : Str → Option Value} {base : Heap} {sp : Sp} (T : Tx K mg)
    (len : ∀ vs H Q E, sp vs H Q E → vs.length = 1) (hp : ∀ vs H Q E, sp vs H Q E → t_is_name K { nx := fun _ H' => Q .non H', rt := Q } (L2.start N_is_name vs) H)
    {f : Addr} {fd : FuncData} (F : Fun K ("is_name" : Str) ("is_name" : Str) s_is_name f fd) : FnOk P w K mg base CX0 1 f fd [("value" : Str)] sp := by
  have nd := sc_is_name.nd
  refine F.ok sc_is_name len (fun cdv A outer s H vs Q E hr h => ⟨t_is_name K, ?_, hp vs H Q E h⟩)
  exact (pss_cons (ps_if (PW.pt (pw_or (pt_not (pt_val (pe_callB call_isi rfl T.b_isinstance (by decide +kernel) (pa_cons (pv 0) (pa_cons (pe_bltn rfl T.b_str (by decide +kernel) rfl) pa_nil))))) (pw_or (pt_not (pt_chain op_uLt op_uLe (pe_int) (pe_callB cr_uLen rfl T.b_len (by decide +kernel) (pa_cons (pv 0) pa_nil)) (pe_cst T.c_MOST_SIGNS_words))) (pw_or1 (pt_cmpR (op_uNi hr.units) (pe_ix (ix_u hr.units) (pv 0) (pe_int) (fun _ _ => rfl)) (pe_cst T.c_LETTERS) (by rfl)))))) (pss_one (ps_ret (pe_bl))) pss_nil) (pss_one (ps_ret (pe_callB (cr_all rfl) rfl T.b_all (by decide +kernel) (pa_cons (pe_lc (own := [(("sign" : Str), 1)]) (g := (gName 1)) (tt := tYes) rfl nd (pi_any (pv 0)) (blkOk_by (N := N_is_name) (sc := defScope s_is_name) (by decide +kernel)) (fun _ _ _ _ _ => (pg_name (i := 1) nd rfl (Or.inl rfl))) (fun _ _ _ _ _ => pts_nil) (fun _ _ _ _ _ => ((pe_or (pe_cmpR (op_uIn hr.units) (pv 1) (pe_cst T.c_LETTERS) (by rfl)) (pe_one (pe_cmpR (op_uIn hr.units) (pv 1) (pe_cst T.c_FIGURES) (by rfl))))))) pa_nil)))))

abbrev s_read_integer : Stmt := top 18
abbrev N_read_integer : List Str := [("word" : Str), ("figures" : Str), ("number" : Str), ("sign" : Str)]
theorem sc_read_integer : FnScope N_read_integer [("word" : Str)] (defScope s_read_integer) := ⟨rfl, rfl, rfl, by decide +kernel, rfl, by decide +kernel, by decide +kernel⟩
def t_read_integer (K : PySem.W.Frag) : TS :=
  (tSeq (tAsg (tIf (tTest (tOp (uEq K) (tSl (uSl K) (tVar 0) tNoPart (tPart (tC (.int 1)))) (tC (.str ("-" : Str))))) (tSl (uSl K) (tVar 0) (tPart (tC (.int 1))) tNoPart) (tVar 0)) (gName 1)) (tSeq (tIfS ((tOr (tTest (tOp (uEq K) (tVar 1) (tC (.str ("" : Str))))) (tOr (tTest (tOp (uGt) (tCB (uLen K) (tCons (tVar 1) tNil)) (tC (.int 9)))) (tNot (tB (tCB (rAll K) (tCons (tLc (iAny K (tVar 1)) (gName 3) tYes (tOp (uIn K) (tVar 3) (tC (.str ("0123456789" : Str)))) [3]) tNil))))))) (tRet (tC .non)) tNext) (tSeq (tAsg (tCB (uInt) (tCons (tVar 0) tNil)) (gName 2)) (tRet (tIf (tTest (tOp (uEq K) (tCB (rStrI) (tCons (tVar 2) tNil)) (tVar 0))) (tVar 2) (tC .non))))))
theorem ok_read_integer {P : Program} {w : World} {K : PySem.W.Frag} {mg : Str → Option Value} {base : Heap} {sp : Sp} (T : Tx K mg)
    (len : ∀ vs H Q E, sp vs H Q E → vs.length = 1) (hp : ∀ vs H Q E, sp vs H Q E → t_read_integer K { nx := fun _ H' => Q .non H', rt := Q } (L2.start N_read_integer vs) H)
    {f : Addr} {fd : FuncData} (F : Fun K ("read_integer" : Str) ("read_integer" : Str) s_read_integer f fd) : FnOk P w K mg base CX0 1 f fd [("word" : Str)] sp := by
  have nd := sc_read_integer.nd
  refine F.ok sc_read_integer len (fun cdv A outer s H vs Q E hr h => ⟨t_read_integer K, ?_, hp vs H Q E h⟩)
  exact (pss_cons (ps_set (i := 1) nd rfl (Or.inl rfl) (pe_ifExp (pt_cmpR (op_uEq hr.units) (pe_slice sl_u (pv 0) po_none (po_some (pe_int))) (pe_str) (nomark _)) (pe_slice sl_u (pv 0) (po_some (pe_int)) po_none) (pv 0))) (pss_cons (ps_if (PW.pt (pw_or (pt_cmpR (op_uEq hr.units) (pv 1) (pe_str) (nomark _)) (pw_or (pt_cmpR op_uGt (pe_callB cr_uLen rfl T.b_len (by decide +kernel) (pa_cons (pv 1) pa_nil)) (pe_int) (nomark _)) (pw_or1 (pt_not (pt_val (pe_callB (cr_all rfl) rfl T.b_all (by decide +kernel) (pa_cons (pe_lc (own := [(("sign" : Str), 3)]) (g := (gName 3)) (tt := tYes) rfl nd (pi_any (pv 1)) (blkOk_by (N := N_read_integer) (sc := defScope s_read_integer) (by decide +kernel)) (fun _ _ _ _ _ => (pg_name (i := 3) nd rfl (Or.inl rfl))) (fun _ _ _ _ _ => pts_nil) (fun _ _ _ _ _ => (pe_cmpR (op_uIn hr.units) (pv 3) (pe_cst T.c_FIGURES) (by rfl)))) pa_nil)))))))) (pss_one (ps_ret (pe_non))) pss_nil) (pss_cons (ps_set (i := 2) nd rfl (Or.inl rfl) (pe_callTy cr_uInt rfl T.b_int (by decide +kernel) (pa_cons (pv 0) pa_nil))) (pss_one (ps_ret (pe_ifExp (pt_cmpR (op_uEq hr.units) (pe_callTy cr_uStr rfl T.b_str (by decide +kernel) (pa_cons (pv 2) pa_nil)) (pv 0) (nomark _)) (pv 2) (pe_non)))))))

abbrev s_common : Stmt := top 19
abbrev N_common : List Str := [("one" : Str), ("other" : Str)]
theorem sc_common : FnScope N_common [("one" : Str), ("other" : Str)] (defScope s_common) := ⟨rfl, rfl, rfl, by decide +kernel, rfl, by decide +kernel, by decide +kernel⟩
def t_common (K : PySem.W.Frag) : TS :=
  (tSeq (tWhile (tTest (tOp (uNe K) (tVar 1) (tC (.int 0)))) (tPar 0 1 (tCons (tVar 1) (tCons (tOp (uMod) (tVar 0) (tVar 1)) tNil)))) (tRet (tCB (rAbs) (tCons (tVar 0) tNil))))
theorem ok_common {P : Program} {w : World} {K : PySem.W.Frag} {mg : Str → Option Value} {base : Heap} {sp : Sp} (T : Tx K mg)
    (len : ∀ vs H Q E, sp vs H Q E → vs.length = 2) (hp : ∀ vs H Q E, sp vs H Q E → t_common K { nx := fun _ H' => Q .non H', rt := Q } (L2.start N_common vs) H)
    {f : Addr} {fd : FuncData} (F : Fun K ("common" : Str) ("common" : Str) s_common f fd) : FnOk P w K mg base CX0 1 f fd [("one" : Str), ("other" : Str)] sp := by
  have nd := sc_common.nd
  refine F.ok sc_common len (fun cdv A outer s H vs Q E hr h => ⟨t_common K, ?_, hp vs H Q E h⟩)
  exact (pss_cons (ps_while PassesOwn.never (pt_cmpR (op_uNe hr.units) (pv 1) (pe_int) (nomark _)) (pss_one (ps_par (i := 0) (j := 1) rfl nd rfl rfl (by decide) rfl rfl (pa_cons (pv 1) (pa_cons (pe_op op_uMod (pv 0) (pv 1)) pa_nil)) (by rfl)))) (pss_one (ps_ret (pe_callB cr_uAbs rfl T.b_abs (by decide +kernel) (pa_cons (pv 0) pa_nil)))))

abbrev s_reduced : Stmt := top 20
abbrev N_reduced : List Str := [("top" : Str), ("low" : Str), ("factor" : Str)]
theorem sc_reduced : FnScope N_reduced [("top" : Str), ("low" : Str)] (defScope s_reduced) := ⟨rfl, rfl, rfl, by decide +kernel, rfl, by decide +kernel, by decide +kernel⟩
def t_reduced (K : PySem.W.Frag) (sp_common : Sp) : TS :=
  (tSeq (tAsg (tIf (tTest (tOp (uGt) (tVar 1) (tC (.int 0)))) (tCall sp_common [] E0 (tCons (tVar 0) (tCons (tVar 1) tNil))) (tOp (uSub) (tC (.int 0)) (tCall sp_common [] E0 (tCons (tVar 0) (tCons (tVar 1) tNil))))) (gName 2)) (tRet (tTup (tCons (tOp (uDiv) (tVar 0) (tVar 2)) (tCons (tOp (uDiv) (tVar 1) (tVar 2)) tNil)))))
theorem ok_reduced {P : Program} {w : World} {K : PySem.W.Frag} {mg : Str → Option Value} {base : Heap} {sp : Sp} {sp_common : Sp} (T : Tx K mg) (D_common : Df P w K mg base ("common" : Str) 1 [("one" : Str), ("other" : Str)] sp_common)
    (len : ∀ vs H Q E, sp vs H Q E → vs.length = 2) (hp : ∀ vs H Q E, sp vs H Q E → t_reduced K sp_common { nx := fun _ H' => Q .non H', rt := Q } (L2.start N_reduced vs) H)
    {f : Addr} {fd : FuncData} (F : Fun K ("reduced" : Str) ("reduced" : Str) s_reduced f fd) : FnOk P w K mg base CX0 2 f fd [("top" : Str), ("low" : Str)] sp := by
  have nd := sc_reduced.nd
  refine F.ok sc_reduced len (fun cdv A outer s H vs Q E hr h => ⟨t_reduced K sp_common, ?_, hp vs H Q E h⟩)
  exact (pss_cons (ps_set (i := 2) nd rfl (Or.inl rfl) (pe_ifExp (pt_cmpR op_uGt (pv 1) (pe_int) (nomark _)) (pe_callD D_common (hr.mono (by decide)) (pa_cons (pv 0) (pa_cons (pv 1) pa_nil))) (pe_op op_uSub (pe_int) (pe_callD D_common (hr.mono (by decide)) (pa_cons (pv 0) (pa_cons (pv 1) pa_nil)))))) (pss_one (ps_ret (pe_tup (pa_cons (pe_op op_uDiv (pv 0) (pv 2)) (pa_cons (pe_op op_uDiv (pv 1) (pv 2)) pa_nil))))))

abbrev s_is_pattern : Stmt := top 36
abbrev N_is_pattern : List Str := [("word" : Str), ("sign" : Str)]
theorem sc_is_pattern : FnScope N_is_pattern [("word" : Str)] (defScope s_is_pattern) := ⟨rfl, rfl, rfl, by decide +kernel, rfl, by decide +kernel, by decide +kernel⟩
def t_is_pattern (K : PySem.W.Frag) : TS :=
  (tRet ((tAndV (tChain (uLt) (uLe) (tC (.int 0)) (tCB (uLen K) (tCons (tVar 0) tNil)) (tC (.int 6))) (tAndV (tCB (rAll K) (tCons (tLc (iAny K (tVar 0)) (gName 1) tYes (tOp (uIn K) (tVar 1) (tC (.str ("01" : Str)))) [1]) tNil)) (tOp (uIn K) (tC (.str ("1" : Str))) (tVar 0))))))
theorem ok_is_pattern {P : Program} {w : World} {K : PySem.W.Frag} {mg : Str → Option Value} {base : Heap} {sp : Sp} (T : Tx K mg)
    (len : ∀ vs H Q E, sp vs H Q E → vs.length = 1) (hp : ∀ vs H Q E, sp vs H Q E → t_is_pattern K { nx := fun _ H' => Q .non H', rt := Q } (L2.start N_is_pattern vs) H)
    {f : Addr} {fd : FuncData} (F : Fun K ("is_pattern" : Str) ("is_pattern" : Str) s_is_pattern f fd) : FnOk P w K mg base CX0 1 f fd [("word" : Str)] sp := by
  have nd := sc_is_pattern.nd
  refine F.ok sc_is_pattern len (fun cdv A outer s H vs Q E hr h => ⟨t_is_pattern K, ?_, hp vs H Q E h⟩)
  exact (pss_one (ps_ret ((pe_and (pe_chain op_uLt op_uLe (pe_int) (pe_callB cr_uLen rfl T.b_len (by decide +kernel) (pa_cons (pv 0) pa_nil)) (pe_cst T.c_MOST_SIGNS_groves)) (pe_and (pe_callB (cr_all rfl) rfl T.b_all (by decide +kernel) (pa_cons (pe_lc (own := [(("sign" : Str), 1)]) (g := (gName 1)) (tt := tYes) rfl nd (pi_any (pv 0)) (blkOk_by (N := N_is_pattern) (sc := defScope s_is_pattern) (by decide +kernel)) (fun _ _ _ _ _ => (pg_name (i := 1) nd rfl (Or.inl rfl))) (fun _ _ _ _ _ => pts_nil) (fun _ _ _ _ _ => (pe_cmpR (op_uIn hr.units) (pv 1) (pe_str) (by rfl)))) pa_nil)) (pe_one (pe_cmpR (op_uIn hr.units) (pe_str) (pv 0) (by rfl))))))))

abbrev s_palm_in : Stmt := top 37
abbrev N_palm_in : List Str := [("words" : Str), ("every" : Str), ("one" : Str), ("other" : Str), ("dates" : Str), ("word" : Str)]
theorem sc_palm_in : FnScope N_palm_in [("words" : Str)] (defScope s_palm_in) := ⟨rfl, rfl, rfl, by decide +kernel, rfl, by decide +kernel, by decide +kernel⟩
def t_palm_in (K : PySem.W.Frag) (sp_read_integer : Sp) (sp_is_between : Sp) (sp_is_day : Sp) (sp_is_pattern : Sp) : TS :=
  (tSeq (tAsg (tLc (iAny K (tSl (uSl K) (tVar 0) tNoPart (tPart (tC (.int 3))))) (gName 5) tYes (tCall sp_read_integer [] E0 (tCons (tVar 5) tNil)) [5]) (gU K 3 (gCons (gName 1) (gCons (gName 2) (gCons (gName 3) gNil))))) (tSeq (tAsg (tCall sp_read_integer [] E0 (tCons (tOp (uIx K) (tVar 0) (tC (.int 4))) tNil)) (gName 4)) (tSeq (tIfS ((tOr (tNot (tB (tCall sp_is_between [] E0 (tCons (tVar 1) (tCons (tC (.int 1)) (tCons (tC (.int 60)) tNil)))))) (tOr (tNot (tB (tCall sp_is_day [] E0 (tCons (tVar 2) tNil)))) (tOr (tNot (tB (tCall sp_is_day [] E0 (tCons (tVar 3) tNil)))) (tTest (tOp (uGt) (tVar 2) (tVar 3))))))) (tRet (tC .non)) tNext) (tSeq (tIfS ((tOr (tNot (tB (tCall sp_is_pattern [] E0 (tCons (tOp (uIx K) (tVar 0) (tC (.int 3))) tNil)))) (tNot (tB (tCall sp_is_between [] E0 (tCons (tVar 4) (tCons (tC (.int 1)) (tCons (tC (.int 99)) tNil)))))))) (tRet (tC .non)) tNext) (tRet (tTup (tCons (tVar 1) (tCons (tVar 2) (tCons (tVar 3) (tCons (tOp (uIx K) (tVar 0) (tC (.int 3))) (tCons (tVar 4) tNil)))))))))))
theorem ok_palm_in {P : Program} {w : World} {K : PySem.W.Frag} {mg : Str → Option Value} {base : Heap} {sp : Sp} {sp_read_integer : Sp} {sp_is_between : Sp} {sp_is_day : Sp} {sp_is_pattern : Sp} (T : Tx K mg) (D_read_integer : Df P w K mg base ("read_integer" : Str) 1 [("word" : Str)] sp_read_integer) (D_is_between : Df P w K mg base ("is_between" : Str) 2 [("value" : Str), ("least" : Str), ("most" : Str)] sp_is_between) (D_is_day : Df P w K mg base ("is_day" : Str) 3 [("value" : Str)] sp_is_day) (D_is_pattern : Df P w K mg base ("is_pattern" : Str) 1 [("word" : Str)] sp_is_pattern)
    (len : ∀ vs H Q E, sp vs H Q E → vs.length = 1) (hp : ∀ vs H Q E, sp vs H Q E → t_palm_in K sp_read_integer sp_is_between sp_is_day sp_is_pattern { nx := fun _ H' => Q .non H', rt := Q } (L2.start N_palm_in vs) H)
    {f : Addr} {fd : FuncData} (F : Fun K ("palm_in" : Str) ("palm_in" : Str) s_palm_in f fd) : FnOk P w K mg base CX0 4 f fd [("words" : Str)] sp := by
  have nd := sc_palm_in.nd
  refine F.ok sc_palm_in len (fun cdv A outer s H vs Q E hr h => ⟨t_palm_in K sp_read_integer sp_is_between sp_is_day sp_is_pattern, ?_, hp vs H Q E h⟩)
  exact (pss_cons (ps_asg (pe_lc (own := [(("word" : Str), 5)]) (g := (gName 5)) (tt := tYes) rfl nd (pi_any (pe_slice sl_u (pv 0) po_none (po_some (pe_int)))) (blkOk_by (N := N_palm_in) (sc := defScope s_palm_in) (by decide +kernel)) (fun _ _ _ _ _ => (pg_name (i := 5) nd rfl (Or.inl rfl))) (fun _ _ _ _ _ => pts_nil) (fun _ _ _ _ _ => (pe_callD D_read_integer (hr.mono (by decide)) (pa_cons (pv 5) pa_nil)))) (pg_gU rfl (pgs_cons (pg_name (i := 1) nd rfl (Or.inl rfl)) (pgs_cons (pg_name (i := 2) nd rfl (Or.inl rfl)) (pgs_cons (pg_name (i := 3) nd rfl (Or.inl rfl)) pgs_nil))))) (pss_cons (ps_set (i := 4) nd rfl (Or.inl rfl) (pe_callD D_read_integer (hr.mono (by decide)) (pa_cons (pe_ix (ix_u hr.units) (pv 0) (pe_int) (fun _ _ => rfl)) pa_nil))) (pss_cons (ps_if (PW.pt (pw_or (pt_not (pt_val (pe_callD D_is_between (hr.mono (by decide)) (pa_cons (pv 1) (pa_cons (pe_int) (pa_cons (pe_cst T.c_MOST_EVERY) pa_nil)))))) (pw_or (pt_not (pt_val (pe_callD D_is_day (hr.mono (by decide)) (pa_cons (pv 2) pa_nil)))) (pw_or (pt_not (pt_val (pe_callD D_is_day (hr.mono (by decide)) (pa_cons (pv 3) pa_nil)))) (pw_or1 (pt_cmpR op_uGt (pv 2) (pv 3) (nomark _))))))) (pss_one (ps_ret (pe_non))) pss_nil) (pss_cons (ps_if (PW.pt (pw_or (pt_not (pt_val (pe_callD D_is_pattern (hr.mono (by decide)) (pa_cons (pe_ix (ix_u hr.units) (pv 0) (pe_int) (fun _ _ => rfl)) pa_nil)))) (pw_or1 (pt_not (pt_val (pe_callD D_is_between (hr.mono (by decide)) (pa_cons (pv 4) (pa_cons (pe_int) (pa_cons (pe_cst T.c_MOST_DATES) pa_nil))))))))) (pss_one (ps_ret (pe_non))) pss_nil) (pss_one (ps_ret (pe_tup (pa_cons (pv 1) (pa_cons (pv 2) (pa_cons (pv 3) (pa_cons (pe_ix (ix_u hr.units) (pv 0) (pe_int) (fun _ _ => rfl)) (pa_cons (pv 4) pa_nil))))))))))))

abbrev s_male_in : Stmt := top 38
abbrev N_male_in : List Str := [("words" : Str), ("opens" : Str), ("loads" : Str), ("keep" : Str), ("word" : Str)]
theorem sc_male_in : FnScope N_male_in [("words" : Str)] (defScope s_male_in) := ⟨rfl, rfl, rfl, by decide +kernel, rfl, by decide +kernel, by decide +kernel⟩
def t_male_in (K : PySem.W.Frag) (sp_read_integer : Sp) (sp_is_day : Sp) (sp_is_between : Sp) : TS :=
  (tSeq (tAsg (tLc (iAny K (tVar 0)) (gName 4) tYes (tCall sp_read_integer [] E0 (tCons (tVar 4) tNil)) [4]) (gU K 3 (gCons (gName 1) (gCons (gName 2) (gCons (gName 3) gNil))))) (tSeq (tIfS ((tOr (tNot (tB (tCall sp_is_day [] E0 (tCons (tVar 1) tNil)))) (tOr (tNot (tB (tCall sp_is_between [] E0 (tCons (tVar 2) (tCons (tC (.int 1)) (tCons (tC (.int 20)) tNil)))))) (tNot (tB (tCall sp_is_between [] E0 (tCons (tVar 3) (tCons (tC (.int 0)) (tCons (tC (.int 30)) tNil))))))))) (tRet (tC .non)) tNext) (tRet (tTup (tCons (tVar 1) (tCons (tVar 2) (tCons (tVar 3) tNil)))))))
theorem ok_male_in {P : Program} {w : World} {K : PySem.W.Frag} {mg : Str → Option Value} {base : Heap} {sp : Sp} {sp_read_integer : Sp} {sp_is_day : Sp} {sp_is_between : Sp} (T : Tx K mg) (D_read_integer : Df P w K mg base ("read_integer" : Str) 1 [("word" : Str)] sp_read_integer) (D_is_day : Df P w K mg base ("is_day" : Str) 3 [("value" : Str)] sp_is_day) (D_is_between : Df P w K mg base ("is_between" : Str) 2 [("value" : Str), ("least" : Str), ("most" : Str)] sp_is_between)
    (len : ∀ vs H Q E, sp vs H Q E → vs.length = 1) (hp : ∀ vs H Q E, sp vs H Q E → t_male_in K sp_read_integer sp_is_day sp_is_between { nx := fun _ H' => Q .non H', rt := Q } (L2.start N_male_in vs) H)
    {f : Addr} {fd : FuncData} (F : Fun K ("male_in" : Str) ("male_in" : Str) s_male_in f fd) : FnOk P w K mg base CX0 4 f fd [("words" : Str)] sp := by
  have nd := sc_male_in.nd
  refine F.ok sc_male_in len (fun cdv A outer s H vs Q E hr h => ⟨t_male_in K sp_read_integer sp_is_day sp_is_between, ?_, hp vs H Q E h⟩)
  exact (pss_cons (ps_asg (pe_lc (own := [(("word" : Str), 4)]) (g := (gName 4)) (tt := tYes) rfl nd (pi_any (pv 0)) (blkOk_by (N := N_male_in) (sc := defScope s_male_in) (by decide +kernel)) (fun _ _ _ _ _ => (pg_name (i := 4) nd rfl (Or.inl rfl))) (fun _ _ _ _ _ => pts_nil) (fun _ _ _ _ _ => (pe_callD D_read_integer (hr.mono (by decide)) (pa_cons (pv 4) pa_nil)))) (pg_gU rfl (pgs_cons (pg_name (i := 1) nd rfl (Or.inl rfl)) (pgs_cons (pg_name (i := 2) nd rfl (Or.inl rfl)) (pgs_cons (pg_name (i := 3) nd rfl (Or.inl rfl)) pgs_nil))))) (pss_cons (ps_if (PW.pt (pw_or (pt_not (pt_val (pe_callD D_is_day (hr.mono (by decide)) (pa_cons (pv 1) pa_nil)))) (pw_or (pt_not (pt_val (pe_callD D_is_between (hr.mono (by decide)) (pa_cons (pv 2) (pa_cons (pe_int) (pa_cons (pe_cst T.c_MOST_LOADS) pa_nil)))))) (pw_or1 (pt_not (pt_val (pe_callD D_is_between (hr.mono (by decide)) (pa_cons (pv 3) (pa_cons (pe_int) (pa_cons (pe_cst T.c_MOST_KEEP) pa_nil)))))))))) (pss_one (ps_ret (pe_non))) pss_nil) (pss_one (ps_ret (pe_tup (pa_cons (pv 1) (pa_cons (pv 2) (pa_cons (pv 3) pa_nil))))))))

abbrev s_GroveReader___init__ : Stmt := inClass (top 39) 0
abbrev N_GroveReader___init__ : List Str := [("self" : Str)]
theorem sc_GroveReader___init__ : FnScope N_GroveReader___init__ [("self" : Str)] (defScope s_GroveReader___init__) := ⟨rfl, rfl, rfl, by decide +kernel, rfl, by decide +kernel, by decide +kernel⟩
def t_GroveReader___init__ (K : PySem.W.Frag) : TS :=
  (tSeq (sFld K (tVar 0) (tC .non) ("own_head" : Str)) (tSeq (sFld K (tVar 0) (tDNewK) ("own_palms" : Str)) (sFld K (tVar 0) (tDNewK) ("own_males" : Str))))
theorem ok_GroveReader___init__ {P : Program} {w : World} {K : PySem.W.Frag} {mg : Str → Option Value} {base : Heap} {sp : Sp} (T : Tx K mg)
    (len : ∀ vs H Q E, sp vs H Q E → vs.length = 1) (hp : ∀ vs H Q E, sp vs H Q E → t_GroveReader___init__ K { nx := fun _ H' => Q .non H', rt := Q } (L2.start N_GroveReader___init__ vs) H)
    {f : Addr} {fd : FuncData} (F : Fun K ("__init__" : Str) ("GroveReader.__init__" : Str) s_GroveReader___init__ f fd) : FnOk P w K mg base CX0 1 f fd [("self" : Str)] sp := by
  have nd := sc_GroveReader___init__.nd
  refine F.ok sc_GroveReader___init__ len (fun cdv A outer s H vs Q E hr h => ⟨t_GroveReader___init__ K, ?_, hp vs H Q E h⟩)
  exact (pss_cons (ps_fld (pv 0) (pe_non) rfl) (pss_cons (ps_fld (pv 0) (pe_dnewK) rfl) (pss_one (ps_fld (pv 0) (pe_dnewK) rfl))))

abbrev s_GroveReader_takes : Stmt := inClass (top 39) 1
abbrev N_GroveReader_takes : List Str := [("self" : Str), ("line" : Str), ("words" : Str), ("found" : Str), ("word" : Str)]
theorem sc_GroveReader_takes : FnScope N_GroveReader_takes [("self" : Str), ("line" : Str)] (defScope s_GroveReader_takes) := ⟨rfl, rfl, rfl, by decide +kernel, rfl, by decide +kernel, by decide +kernel⟩
def t_GroveReader_takes (K : PySem.W.Frag) (C_GroveReader : Addr) (sp_GroveReader_takes_head : Sp) (sp_read_integer : Sp) (sp_GroveReader_is_new : Sp) (sp_palm_in : Sp) (sp_male_in : Sp) : TS :=
  (tSeq (tAsg (tM1 rSplit (tVar 1) (tC (.str (" " : Str)))) (gName 2)) (tSeq (tIfS ((tAnd (tTest (tOp (uEq K) (tOp (uIx K) (tVar 2) (tC (.int 0))) (tC (.str ("grove" : Str))))) (tTest (tOp (uEq K) (tCB (uLen K) (tCons (tVar 2) tNil)) (tC (.int 3)))))) (tRet (tMeth C_GroveReader ("takes_head" : Str) sp_GroveReader_takes_head [] E0 (tVar 0) (tCons (tLc (iAny K (tSl (uSl K) (tVar 2) (tPart (tC (.int 1))) tNoPart)) (gName 4) tYes (tCall sp_read_integer [] E0 (tCons (tVar 4) tNil)) [4]) tNil))) tNext) (tSeq (tIfS ((tOr (tTest (tOp (uIs) (tFld K (tVar 0) ("own_head" : Str)) (tC .non))) (tOr (tTest (tOp (uLt) (tCB (uLen K) (tCons (tVar 2) tNil)) (tC (.int 2)))) (tNot (tB (tMeth C_GroveReader ("is_new" : Str) sp_GroveReader_is_new [] E0 (tVar 0) (tCons (tOp (uIx K) (tVar 2) (tC (.int 1))) tNil))))))) (tRet (tC (.bl false))) tNext) (tSeq (tIfS ((tAnd (tTest (tOp (uEq K) (tOp (uIx K) (tVar 2) (tC (.int 0))) (tC (.str ("palm" : Str))))) (tTest (tOp (uEq K) (tCB (uLen K) (tCons (tVar 2) tNil)) (tC (.int 7)))))) (tSeq (tAsg (tCall sp_palm_in [] E0 (tCons (tSl (uSl K) (tVar 2) (tPart (tC (.int 2))) tNoPart) tNil)) (gName 3)) (tSeq (tIfS ((tOr (tTest (tOp (uIs) (tVar 3) (tC .non))) (tOr (tTest (tOp (uNe K) (tFld K (tVar 0) ("own_males" : Str)) (tDNewK))) (tTest (tOp (uEq K) (tCB (uLen K) (tCons (tFld K (tVar 0) ("own_palms" : Str)) tNil)) (tC (.int 12))))))) (tRet (tC (.bl false))) tNext) (tSeq (tAsg (tVar 3) (gSub (tFld K (tVar 0) ("own_palms" : Str)) (tOp (uIx K) (tVar 2) (tC (.int 1))) uSet)) (tRet (tC (.bl true)))))) tNext) (tSeq (tAsg (tIf ((tAnd (tTest (tOp (uEq K) (tOp (uIx K) (tVar 2) (tC (.int 0))) (tC (.str ("male" : Str))))) (tTest (tOp (uEq K) (tCB (uLen K) (tCons (tVar 2) tNil)) (tC (.int 5)))))) (tCall sp_male_in [] E0 (tCons (tSl (uSl K) (tVar 2) (tPart (tC (.int 2))) tNoPart) tNil)) (tC .non)) (gName 3)) (tSeq (tIfS ((tOr (tTest (tOp (uIs) (tVar 3) (tC .non))) (tOr (tTest (tOp (uEq K) (tFld K (tVar 0) ("own_palms" : Str)) (tDNewK))) (tTest (tOp (uEq K) (tCB (uLen K) (tCons (tFld K (tVar 0) ("own_males" : Str)) tNil)) (tC (.int 6))))))) (tRet (tC (.bl false))) tNext) (tSeq (tAsg (tVar 3) (gSub (tFld K (tVar 0) ("own_males" : Str)) (tOp (uIx K) (tVar 2) (tC (.int 1))) uSet)) (tRet (tC (.bl true))))))))))
theorem ok_GroveReader_takes {P : Program} {w : World} {K : PySem.W.Frag} {mg : Str → Option Value} {base : Heap} {sp : Sp} {C_GroveReader : Addr} {sp_GroveReader_takes_head : Sp} {sp_read_integer : Sp} {sp_GroveReader_is_new : Sp} {sp_palm_in : Sp} {sp_male_in : Sp} (T : Tx K mg) (D_GroveReader_takes_head : Dmt P w K mg base C_GroveReader ("takes_head" : Str) 3 [("self" : Str), ("numbers" : Str)] sp_GroveReader_takes_head) (D_read_integer : Df P w K mg base ("read_integer" : Str) 1 [("word" : Str)] sp_read_integer) (D_GroveReader_is_new : Dmt P w K mg base C_GroveReader ("is_new" : Str) 2 [("self" : Str), ("name" : Str)] sp_GroveReader_is_new) (D_palm_in : Df P w K mg base ("palm_in" : Str) 4 [("words" : Str)] sp_palm_in) (D_male_in : Df P w K mg base ("male_in" : Str) 4 [("words" : Str)] sp_male_in)
    (len : ∀ vs H Q E, sp vs H Q E → vs.length = 2) (hp : ∀ vs H Q E, sp vs H Q E → t_GroveReader_takes K C_GroveReader sp_GroveReader_takes_head sp_read_integer sp_GroveReader_is_new sp_palm_in sp_male_in { nx := fun _ H' => Q .non H', rt := Q } (L2.start N_GroveReader_takes vs) H)
    {f : Addr} {fd : FuncData} (F : Fun K ("takes" : Str) ("GroveReader.takes" : Str) s_GroveReader_takes f fd) : FnOk P w K mg base CX0 5 f fd [("self" : Str), ("line" : Str)] sp := by
  have nd := sc_GroveReader_takes.nd
  refine F.ok sc_GroveReader_takes len (fun cdv A outer s H vs Q E hr h => ⟨t_GroveReader_takes K C_GroveReader sp_GroveReader_takes_head sp_read_integer sp_GroveReader_is_new sp_palm_in sp_male_in, ?_, hp vs H Q E h⟩)
  exact (pss_cons (ps_set (i := 2) nd rfl (Or.inl rfl) (pe_split (pv 1) (pe_str))) (pss_cons (ps_if (PW.pt (pw_and (pt_cmpR (op_uEq hr.units) (pe_ix (ix_u hr.units) (pv 2) (pe_int) (fun _ _ => rfl)) (pe_cst T.c_GROVE) (nomark _)) (pw_and1 (pt_cmpR (op_uEq hr.units) (pe_callB cr_uLen rfl T.b_len (by decide +kernel) (pa_cons (pv 2) pa_nil)) (pe_int) (nomark _))))) (pss_one (ps_ret (pe_methD D_GroveReader_takes_head (hr.mono (by decide)) (pv 0) (pa_cons (pe_lc (own := [(("word" : Str), 4)]) (g := (gName 4)) (tt := tYes) rfl nd (pi_any (pe_slice sl_u (pv 2) (po_some (pe_int)) po_none)) (blkOk_by (N := N_GroveReader_takes) (sc := defScope s_GroveReader_takes) (by decide +kernel)) (fun _ _ _ _ _ => (pg_name (i := 4) nd rfl (Or.inl rfl))) (fun _ _ _ _ _ => pts_nil) (fun _ _ _ _ _ => (pe_callD D_read_integer (hr.mono (by decide)) (pa_cons (pv 4) pa_nil)))) pa_nil)))) pss_nil) (pss_cons (ps_if (PW.pt (pw_or (pt_cmpR op_uIs (pe_fldD (pv 0)) (pe_non) (nomark _)) (pw_or (pt_cmpR op_uLt (pe_callB cr_uLen rfl T.b_len (by decide +kernel) (pa_cons (pv 2) pa_nil)) (pe_int) (nomark _)) (pw_or1 (pt_not (pt_val (pe_methD D_GroveReader_is_new (hr.mono (by decide)) (pv 0) (pa_cons (pe_ix (ix_u hr.units) (pv 2) (pe_int) (fun _ _ => rfl)) pa_nil)))))))) (pss_one (ps_ret (pe_bl))) pss_nil) (pss_cons (ps_if (PW.pt (pw_and (pt_cmpR (op_uEq hr.units) (pe_ix (ix_u hr.units) (pv 2) (pe_int) (fun _ _ => rfl)) (pe_cst T.c_PALM) (nomark _)) (pw_and1 (pt_cmpR (op_uEq hr.units) (pe_callB cr_uLen rfl T.b_len (by decide +kernel) (pa_cons (pv 2) pa_nil)) (pe_int) (nomark _))))) (pss_cons (ps_set (i := 3) nd rfl (Or.inl rfl) (pe_callD D_palm_in (hr.mono (by decide)) (pa_cons (pe_slice sl_u (pv 2) (po_some (pe_int)) po_none) pa_nil))) (pss_cons (ps_if (PW.pt (pw_or (pt_cmpR op_uIs (pv 3) (pe_non) (nomark _)) (pw_or (pt_cmpR (op_uNe hr.units) (pe_fldD (pv 0)) (pe_dnewK) (nomark _)) (pw_or1 (pt_cmpR (op_uEq hr.units) (pe_callB cr_uLen rfl T.b_len (by decide +kernel) (pa_cons (pe_fldD (pv 0)) pa_nil)) (pe_cst T.c_MOST_PALMS) (nomark _)))))) (pss_one (ps_ret (pe_bl))) pss_nil) (pss_cons (ps_asg (pv 3) (pg_sub (pe_fldD (pv 0)) (pe_ix (ix_u hr.units) (pv 2) (pe_int) (fun _ _ => rfl)) (set_u hr.units))) (pss_one (ps_ret (pe_bl)))))) pss_nil) (pss_cons (ps_set (i := 3) nd rfl (Or.inl rfl) (pe_ifExp (PW.pt (pw_and (pt_cmpR (op_uEq hr.units) (pe_ix (ix_u hr.units) (pv 2) (pe_int) (fun _ _ => rfl)) (pe_cst T.c_MALE) (nomark _)) (pw_and1 (pt_cmpR (op_uEq hr.units) (pe_callB cr_uLen rfl T.b_len (by decide +kernel) (pa_cons (pv 2) pa_nil)) (pe_int) (nomark _))))) (pe_callD D_male_in (hr.mono (by decide)) (pa_cons (pe_slice sl_u (pv 2) (po_some (pe_int)) po_none) pa_nil)) (pe_non))) (pss_cons (ps_if (PW.pt (pw_or (pt_cmpR op_uIs (pv 3) (pe_non) (nomark _)) (pw_or (pt_cmpR (op_uEq hr.units) (pe_fldD (pv 0)) (pe_dnewK) (nomark _)) (pw_or1 (pt_cmpR (op_uEq hr.units) (pe_callB cr_uLen rfl T.b_len (by decide +kernel) (pa_cons (pe_fldD (pv 0)) pa_nil)) (pe_cst T.c_MOST_MALES) (nomark _)))))) (pss_one (ps_ret (pe_bl))) pss_nil) (pss_cons (ps_asg (pv 3) (pg_sub (pe_fldD (pv 0)) (pe_ix (ix_u hr.units) (pv 2) (pe_int) (fun _ _ => rfl)) (set_u hr.units))) (pss_one (ps_ret (pe_bl))))))))))

abbrev s_GroveReader_takes_head : Stmt := inClass (top 39) 2
abbrev N_GroveReader_takes_head : List Str := [("self" : Str), ("numbers" : Str)]
theorem sc_GroveReader_takes_head : FnScope N_GroveReader_takes_head [("self" : Str), ("numbers" : Str)] (defScope s_GroveReader_takes_head) := ⟨rfl, rfl, rfl, by decide +kernel, rfl, by decide +kernel, by decide +kernel⟩
def t_GroveReader_takes_head (K : PySem.W.Frag) (sp_is_between : Sp) : TS :=
  (tSeq (tIfS (tTest (tOp (uNt) (tFld K (tVar 0) ("own_head" : Str)) (tC .non))) (tRet (tC (.bl false))) tNext) (tSeq (tIfS ((tOr (tNot (tB (tCall sp_is_between [] E0 (tCons (tOp (uIx K) (tVar 1) (tC (.int 0))) (tCons (tC (.int 1)) (tCons (tC (.int 3)) tNil)))))) (tNot (tB (tCall sp_is_between [] E0 (tCons (tOp (uIx K) (tVar 1) (tC (.int 1))) (tCons (tC (.int 1)) (tCons (tC (.int 6)) tNil)))))))) (tRet (tC (.bl false))) tNext) (tSeq (sFld K (tVar 0) (tTup (tCons (tOp (uIx K) (tVar 1) (tC (.int 0))) (tCons (tOp (uIx K) (tVar 1) (tC (.int 1))) tNil))) ("own_head" : Str)) (tRet (tC (.bl true))))))
theorem ok_GroveReader_takes_head {P : Program} {w : World} {K : PySem.W.Frag} {mg : Str → Option Value} {base : Heap} {sp : Sp} {sp_is_between : Sp} (T : Tx K mg) (D_is_between : Df P w K mg base ("is_between" : Str) 2 [("value" : Str), ("least" : Str), ("most" : Str)] sp_is_between)
    (len : ∀ vs H Q E, sp vs H Q E → vs.length = 2) (hp : ∀ vs H Q E, sp vs H Q E → t_GroveReader_takes_head K sp_is_between { nx := fun _ H' => Q .non H', rt := Q } (L2.start N_GroveReader_takes_head vs) H)
    {f : Addr} {fd : FuncData} (F : Fun K ("takes_head" : Str) ("GroveReader.takes_head" : Str) s_GroveReader_takes_head f fd) : FnOk P w K mg base CX0 3 f fd [("self" : Str), ("numbers" : Str)] sp := by
  have nd := sc_GroveReader_takes_head.nd
  refine F.ok sc_GroveReader_takes_head len (fun cdv A outer s H vs Q E hr h => ⟨t_GroveReader_takes_head K sp_is_between, ?_, hp vs H Q E h⟩)
  exact (pss_cons (ps_if (pt_cmpR op_uNt (pe_fldD (pv 0)) (pe_non) (nomark _)) (pss_one (ps_ret (pe_bl))) pss_nil) (pss_cons (ps_if (PW.pt (pw_or (pt_not (pt_val (pe_callD D_is_between (hr.mono (by decide)) (pa_cons (pe_ix (ix_u hr.units) (pv 1) (pe_int) (fun _ _ => rfl)) (pa_cons (pe_int) (pa_cons (pe_cst T.c_MOST_TURNS) pa_nil)))))) (pw_or1 (pt_not (pt_val (pe_callD D_is_between (hr.mono (by decide)) (pa_cons (pe_ix (ix_u hr.units) (pv 1) (pe_int) (fun _ _ => rfl)) (pa_cons (pe_int) (pa_cons (pe_cst T.c_MOST_HANDS) pa_nil))))))))) (pss_one (ps_ret (pe_bl))) pss_nil) (pss_cons (ps_fld (pv 0) (pe_tup (pa_cons (pe_ix (ix_u hr.units) (pv 1) (pe_int) (fun _ _ => rfl)) (pa_cons (pe_ix (ix_u hr.units) (pv 1) (pe_int) (fun _ _ => rfl)) pa_nil))) rfl) (pss_one (ps_ret (pe_bl))))))

abbrev s_GroveReader_is_new : Stmt := inClass (top 39) 3
abbrev N_GroveReader_is_new : List Str := [("self" : Str), ("name" : Str)]
theorem sc_GroveReader_is_new : FnScope N_GroveReader_is_new [("self" : Str), ("name" : Str)] (defScope s_GroveReader_is_new) := ⟨rfl, rfl, rfl, by decide +kernel, rfl, by decide +kernel, by decide +kernel⟩
def t_GroveReader_is_new (K : PySem.W.Frag) (sp_is_name : Sp) : TS :=
  (tRet ((tAndV (tCall sp_is_name [] E0 (tCons (tVar 1) tNil)) (tAndV (tOp (uNi K) (tVar 1) (tFld K (tVar 0) ("own_palms" : Str))) (tOp (uNi K) (tVar 1) (tFld K (tVar 0) ("own_males" : Str)))))))
theorem ok_GroveReader_is_new {P : Program} {w : World} {K : PySem.W.Frag} {mg : Str → Option Value} {base : Heap} {sp : Sp} {sp_is_name : Sp} (T : Tx K mg) (D_is_name : Df P w K mg base ("is_name" : Str) 1 [("value" : Str)] sp_is_name)
    (len : ∀ vs H Q E, sp vs H Q E → vs.length = 2) (hp : ∀ vs H Q E, sp vs H Q E → t_GroveReader_is_new K sp_is_name { nx := fun _ H' => Q .non H', rt := Q } (L2.start N_GroveReader_is_new vs) H)
    {f : Addr} {fd : FuncData} (F : Fun K ("is_new" : Str) ("GroveReader.is_new" : Str) s_GroveReader_is_new f fd) : FnOk P w K mg base CX0 2 f fd [("self" : Str), ("name" : Str)] sp := by
  have nd := sc_GroveReader_is_new.nd
  refine F.ok sc_GroveReader_is_new len (fun cdv A outer s H vs Q E hr h => ⟨t_GroveReader_is_new K sp_is_name, ?_, hp vs H Q E h⟩)
  exact (pss_one (ps_ret ((pe_and (pe_callD D_is_name (hr.mono (by decide)) (pa_cons (pv 1) pa_nil)) (pe_and (pe_cmpR (op_uNi hr.units) (pv 1) (pe_fldD (pv 0)) (by rfl)) (pe_one (pe_cmpR (op_uNi hr.units) (pv 1) (pe_fldD (pv 0)) (by rfl))))))))

abbrev s_Grove___init__ : Stmt := inClass (top 40) 0
abbrev N_Grove___init__ : List Str := [("self" : Str), ("text" : Str), ("reader" : Str), ("lines" : Str), ("number" : Str), ("line" : Str)]
theorem sc_Grove___init__ : FnScope N_Grove___init__ [("self" : Str), ("text" : Str)] (defScope s_Grove___init__) := ⟨rfl, rfl, rfl, by decide +kernel, rfl, by decide +kernel, by decide +kernel⟩
def t_Grove___init__ (K : PySem.W.Frag) (C_GroveReader : Addr) (sp_GroveReader___init__ : Sp) (sp_GroveReader_takes : Sp) : TS :=
  (tSeq (tIfS (tNot (tB (tCB (rIsi K) (tCons (tVar 1) (tCons (tC (.ty "str")) tNil))))) (tNever) tNext) (tSeq (tPar 2 3 (tCons (tMake C_GroveReader sp_GroveReader___init__ [] E0 tNil) (tCons (tM1 rSplit (tVar 1) (tC (.str ("\n" : Str)))) tNil))) (tSeq (tFor (iEn K (tCons (tVar 3) tNil)) (gU K 2 (gCons (gName 4) (gCons (gName 5) gNil))) (tIfS (tNot (tB (tMeth C_GroveReader ("takes" : Str) sp_GroveReader_takes [] E0 (tVar 2) (tCons (tVar 5) tNil)))) (tNever) tNext)) (tSeq (tIfS (tTest (tOp (uEq K) (tFld K (tVar 2) ("own_palms" : Str)) (tDNewK))) (tNever) tNext) (tSeq (sFld K (tVar 0) (tVar 1) ("own_text" : Str)) (tSeq (sFld K (tVar 0) (tFld K (tVar 2) ("own_head" : Str)) ("own_head" : Str)) (tSeq (sFld K (tVar 0) (tFld K (tVar 2) ("own_palms" : Str)) ("own_palms" : Str)) (sFld K (tVar 0) (tFld K (tVar 2) ("own_males" : Str)) ("own_males" : Str)))))))))
theorem ok_Grove___init__ {P : Program} {w : World} {K : PySem.W.Frag} {mg : Str → Option Value} {base : Heap} {sp : Sp} {C_GroveReader : Addr} {sp_GroveReader___init__ : Sp} {sp_GroveReader_takes : Sp} (T : Tx K mg) (D_GroveReader___init__ : Di P w K mg base ("GroveReader" : Str) C_GroveReader 1 [("self" : Str)] sp_GroveReader___init__) (D_GroveReader_takes : Dmt P w K mg base C_GroveReader ("takes" : Str) 5 [("self" : Str), ("line" : Str)] sp_GroveReader_takes)
    (len : ∀ vs H Q E, sp vs H Q E → vs.length = 2) (hp : ∀ vs H Q E, sp vs H Q E → t_Grove___init__ K C_GroveReader sp_GroveReader___init__ sp_GroveReader_takes { nx := fun _ H' => Q .non H', rt := Q } (L2.start N_Grove___init__ vs) H)
    {f : Addr} {fd : FuncData} (F : Fun K ("__init__" : Str) ("Grove.__init__" : Str) s_Grove___init__ f fd) : FnOk P w K mg base CX0 6 f fd [("self" : Str), ("text" : Str)] sp := by
  have nd := sc_Grove___init__.nd
  refine F.ok sc_Grove___init__ len (fun cdv A outer s H vs Q E hr h => ⟨t_Grove___init__ K C_GroveReader sp_GroveReader___init__ sp_GroveReader_takes, ?_, hp vs H Q E h⟩)
  exact (pss_cons (ps_if (pt_not (pt_val (pe_callB call_isi rfl T.b_isinstance (by decide +kernel) (pa_cons (pv 1) (pa_cons (pe_bltn rfl T.b_str (by decide +kernel) rfl) pa_nil))))) (pss_one (ps_never)) pss_nil) (pss_cons (ps_par (i := 2) (j := 3) rfl nd rfl rfl (by decide) rfl rfl (pa_cons (pe_make0D D_GroveReader___init__ (hr.mono (by decide))) (pa_cons (pe_split (pv 1) (pe_str)) pa_nil)) (by rfl)) (pss_cons (ps_for PassesOwn.never rfl (pi_en rfl T.b_enumerate (pa_cons (pv 3) pa_nil)) (pg_gU rfl (pgs_cons (pg_name (i := 4) nd rfl (Or.inl rfl)) (pgs_cons (pg_name (i := 5) nd rfl (Or.inl rfl)) pgs_nil))) (pss_one (ps_if (pt_not (pt_val (pe_methD D_GroveReader_takes (hr.mono (by decide)) (pv 2) (pa_cons (pv 5) pa_nil)))) (pss_one (ps_never)) pss_nil))) (pss_cons (ps_if (pt_cmpR (op_uEq hr.units) (pe_fldD (pv 2)) (pe_dnewK) (nomark _)) (pss_one (ps_never)) pss_nil) (pss_cons (ps_fld (pv 0) (pv 1) rfl) (pss_cons (ps_fld (pv 0) (pe_fldD (pv 2)) rfl) (pss_cons (ps_fld (pv 0) (pe_fldD (pv 2)) rfl) (pss_one (ps_fld (pv 0) (pe_fldD (pv 2)) rfl)))))))))

abbrev s_Grove___eq__ : Stmt := inClass (top 40) 1
abbrev N_Grove___eq__ : List Str := [("self" : Str), ("other" : Str)]
theorem sc_Grove___eq__ : FnScope N_Grove___eq__ [("self" : Str), ("other" : Str)] (defScope s_Grove___eq__) := ⟨rfl, rfl, rfl, by decide +kernel, rfl, by decide +kernel, by decide +kernel⟩
def t_Grove___eq__ (K : PySem.W.Frag) (C_Grove : Addr) (sp_Grove_text : Sp) : TS :=
  (tRet ((tAndV (tCB (rIsi K) (tCons (tVar 1) (tCons (tC (.ref C_Grove)) tNil))) (tOp (uEq K) (tFld K (tVar 0) ("own_text" : Str)) (tProp C_Grove sp_Grove_text [] E0 (tVar 1))))))
theorem ok_Grove___eq__ {P : Program} {w : World} {K : PySem.W.Frag} {mg : Str → Option Value} {base : Heap} {sp : Sp} {C_Grove : Addr} {sp_Grove_text : Sp} (T : Tx K mg) (c_Grove : Cst mg ("Grove" : Str) (.ref C_Grove)) (D_Grove_text : Dpr P w K mg base C_Grove ("text" : Str) 1 [("self" : Str)] sp_Grove_text)
    (len : ∀ vs H Q E, sp vs H Q E → vs.length = 2) (hp : ∀ vs H Q E, sp vs H Q E → t_Grove___eq__ K C_Grove sp_Grove_text { nx := fun _ H' => Q .non H', rt := Q } (L2.start N_Grove___eq__ vs) H)
    {f : Addr} {fd : FuncData} (F : Fun K ("__eq__" : Str) ("Grove.__eq__" : Str) s_Grove___eq__ f fd) : FnOk P w K mg base CX0 3 f fd [("self" : Str), ("other" : Str)] sp := by
  have nd := sc_Grove___eq__.nd
  refine F.ok sc_Grove___eq__ len (fun cdv A outer s H vs Q E hr h => ⟨t_Grove___eq__ K C_Grove sp_Grove_text, ?_, hp vs H Q E h⟩)
  exact (pss_one (ps_ret ((pe_and (pe_callB call_isi rfl T.b_isinstance (by decide +kernel) (pa_cons (pv 1) (pa_cons (pe_cst (v := .ref C_Grove) c_Grove) pa_nil))) (pe_one (pe_cmpR (op_uEq hr.units) (pe_fldD (pv 0)) (pe_propD D_Grove_text (hr.mono (by decide)) (pv 1)) (nomark _)))))))

abbrev s_Grove_text : Stmt := inClass (top 40) 2
abbrev N_Grove_text : List Str := [("self" : Str)]
theorem sc_Grove_text : FnScope N_Grove_text [("self" : Str)] (defScope s_Grove_text) := ⟨rfl, rfl, rfl, by decide +kernel, rfl, by decide +kernel, by decide +kernel⟩
def t_Grove_text (K : PySem.W.Frag) : TS :=
  (tRet (tFld K (tVar 0) ("own_text" : Str)))
theorem ok_Grove_text {P : Program} {w : World} {K : PySem.W.Frag} {mg : Str → Option Value} {base : Heap} {sp : Sp} (T : Tx K mg)
    (len : ∀ vs H Q E, sp vs H Q E → vs.length = 1) (hp : ∀ vs H Q E, sp vs H Q E → t_Grove_text K { nx := fun _ H' => Q .non H', rt := Q } (L2.start N_Grove_text vs) H)
    {f : Addr} {fd : FuncData} (F : Fun K ("text" : Str) ("Grove.text" : Str) s_Grove_text f fd) : FnOk P w K mg base CX0 1 f fd [("self" : Str)] sp := by
  have nd := sc_Grove_text.nd
  refine F.ok sc_Grove_text len (fun cdv A outer s H vs Q E hr h => ⟨t_Grove_text K, ?_, hp vs H Q E h⟩)
  exact (pss_one (ps_ret (pe_fldD (pv 0))))

abbrev s_Grove_turns : Stmt := inClass (top 40) 3
abbrev N_Grove_turns : List Str := [("self" : Str)]
theorem sc_Grove_turns : FnScope N_Grove_turns [("self" : Str)] (defScope s_Grove_turns) := ⟨rfl, rfl, rfl, by decide +kernel, rfl, by decide +kernel, by decide +kernel⟩
def t_Grove_turns (K : PySem.W.Frag) : TS :=
  (tRet (tOp (uIx K) (tFld K (tVar 0) ("own_head" : Str)) (tC (.int 0))))
theorem ok_Grove_turns {P : Program} {w : World} {K : PySem.W.Frag} {mg : Str → Option Value} {base : Heap} {sp : Sp} (T : Tx K mg)
    (len : ∀ vs H Q E, sp vs H Q E → vs.length = 1) (hp : ∀ vs H Q E, sp vs H Q E → t_Grove_turns K { nx := fun _ H' => Q .non H', rt := Q } (L2.start N_Grove_turns vs) H)
    {f : Addr} {fd : FuncData} (F : Fun K ("turns" : Str) ("Grove.turns" : Str) s_Grove_turns f fd) : FnOk P w K mg base CX0 1 f fd [("self" : Str)] sp := by
  have nd := sc_Grove_turns.nd
  refine F.ok sc_Grove_turns len (fun cdv A outer s H vs Q E hr h => ⟨t_Grove_turns K, ?_, hp vs H Q E h⟩)
  exact (pss_one (ps_ret (pe_ix (ix_u hr.units) (pe_fldD (pv 0)) (pe_int) (fun _ _ => rfl))))

abbrev s_Grove_hands : Stmt := inClass (top 40) 4
abbrev N_Grove_hands : List Str := [("self" : Str)]
theorem sc_Grove_hands : FnScope N_Grove_hands [("self" : Str)] (defScope s_Grove_hands) := ⟨rfl, rfl, rfl, by decide +kernel, rfl, by decide +kernel, by decide +kernel⟩
def t_Grove_hands (K : PySem.W.Frag) : TS :=
  (tRet (tOp (uIx K) (tFld K (tVar 0) ("own_head" : Str)) (tC (.int 1))))
theorem ok_Grove_hands {P : Program} {w : World} {K : PySem.W.Frag} {mg : Str → Option Value} {base : Heap} {sp : Sp} (T : Tx K mg)
    (len : ∀ vs H Q E, sp vs H Q E → vs.length = 1) (hp : ∀ vs H Q E, sp vs H Q E → t_Grove_hands K { nx := fun _ H' => Q .non H', rt := Q } (L2.start N_Grove_hands vs) H)
    {f : Addr} {fd : FuncData} (F : Fun K ("hands" : Str) ("Grove.hands" : Str) s_Grove_hands f fd) : FnOk P w K mg base CX0 1 f fd [("self" : Str)] sp := by
  have nd := sc_Grove_hands.nd
  refine F.ok sc_Grove_hands len (fun cdv A outer s H vs Q E hr h => ⟨t_Grove_hands K, ?_, hp vs H Q E h⟩)
  exact (pss_one (ps_ret (pe_ix (ix_u hr.units) (pe_fldD (pv 0)) (pe_int) (fun _ _ => rfl))))

abbrev s_Grove_palms : Stmt := inClass (top 40) 5
abbrev N_Grove_palms : List Str := [("self" : Str), ("name" : Str)]
theorem sc_Grove_palms : FnScope N_Grove_palms [("self" : Str)] (defScope s_Grove_palms) := ⟨rfl, rfl, rfl, by decide +kernel, rfl, by decide +kernel, by decide +kernel⟩
def t_Grove_palms (K : PySem.W.Frag) : TS :=
  (tRet (tCB (rTupS K) (tCons (tLockE (tLc (iKeys (tFld K (tVar 0) ("own_palms" : Str))) (gName 1) tYes (tTup (tCons (tVar 1) (tStar K (tOp (uIx K) (tFld K (tVar 0) ("own_palms" : Str)) (tVar 1)) tNil))) [1])) tNil)))
theorem ok_Grove_palms {P : Program} {w : World} {K : PySem.W.Frag} {mg : Str → Option Value} {base : Heap} {sp : Sp} (T : Tx K mg)
    (len : ∀ vs H Q E, sp vs H Q E → vs.length = 1) (hp : ∀ vs H Q E, sp vs H Q E → t_Grove_palms K { nx := fun _ H' => Q .non H', rt := Q } (L2.start N_Grove_palms vs) H)
    {f : Addr} {fd : FuncData} (F : Fun K ("palms" : Str) ("Grove.palms" : Str) s_Grove_palms f fd) : FnOk P w K mg base CX0 1 f fd [("self" : Str)] sp := by
  have nd := sc_Grove_palms.nd
  refine F.ok sc_Grove_palms len (fun cdv A outer s H vs Q E hr h => ⟨t_Grove_palms K, ?_, hp vs H Q E h⟩)
  exact (pss_one (ps_ret (pe_callTy cr_uTup rfl T.b_tuple (by decide +kernel) (pa_cons (pe_lock (pe_lc (own := [(("name" : Str), 1)]) (g := (gName 1)) (tt := tYes) rfl nd (pi_keys (pe_fldD (pv 0))) (blkOk_by (N := N_Grove_palms) (sc := defScope s_Grove_palms) (by decide +kernel)) (fun _ _ _ _ _ => (pg_name (i := 1) nd rfl (Or.inl rfl))) (fun _ _ _ _ _ => pts_nil) (fun _ _ _ _ _ => (pe_tup (pa_cons (pv 1) (pa_star (pe_ix (ix_u hr.units) (pe_fldD (pv 0)) (pv 1) (fun _ _ => rfl)) pa_nil)))))) pa_nil))))

abbrev s_Grove_males : Stmt := inClass (top 40) 6
abbrev N_Grove_males : List Str := [("self" : Str), ("name" : Str)]
theorem sc_Grove_males : FnScope N_Grove_males [("self" : Str)] (defScope s_Grove_males) := ⟨rfl, rfl, rfl, by decide +kernel, rfl, by decide +kernel, by decide +kernel⟩
def t_Grove_males (K : PySem.W.Frag) : TS :=
  (tRet (tCB (rTupS K) (tCons (tLockE (tLc (iKeys (tFld K (tVar 0) ("own_males" : Str))) (gName 1) tYes (tTup (tCons (tVar 1) (tStar K (tOp (uIx K) (tFld K (tVar 0) ("own_males" : Str)) (tVar 1)) tNil))) [1])) tNil)))
theorem ok_Grove_males {P : Program} {w : World} {K : PySem.W.Frag} {mg : Str → Option Value} {base : Heap} {sp : Sp} (T : Tx K mg)
    (len : ∀ vs H Q E, sp vs H Q E → vs.length = 1) (hp : ∀ vs H Q E, sp vs H Q E → t_Grove_males K { nx := fun _ H' => Q .non H', rt := Q } (L2.start N_Grove_males vs) H)
    {f : Addr} {fd : FuncData} (F : Fun K ("males" : Str) ("Grove.males" : Str) s_Grove_males f fd) : FnOk P w K mg base CX0 1 f fd [("self" : Str)] sp := by
  have nd := sc_Grove_males.nd
  refine F.ok sc_Grove_males len (fun cdv A outer s H vs Q E hr h => ⟨t_Grove_males K, ?_, hp vs H Q E h⟩)
  exact (pss_one (ps_ret (pe_callTy cr_uTup rfl T.b_tuple (by decide +kernel) (pa_cons (pe_lock (pe_lc (own := [(("name" : Str), 1)]) (g := (gName 1)) (tt := tYes) rfl nd (pi_keys (pe_fldD (pv 0))) (blkOk_by (N := N_Grove_males) (sc := defScope s_Grove_males) (by decide +kernel)) (fun _ _ _ _ _ => (pg_name (i := 1) nd rfl (Or.inl rfl))) (fun _ _ _ _ _ => pts_nil) (fun _ _ _ _ _ => (pe_tup (pa_cons (pv 1) (pa_star (pe_ix (ix_u hr.units) (pe_fldD (pv 0)) (pv 1) (fun _ _ => rfl)) pa_nil)))))) pa_nil))))

abbrev s_Grove_palm_names : Stmt := inClass (top 40) 7
abbrev N_Grove_palm_names : List Str := [("self" : Str)]
theorem sc_Grove_palm_names : FnScope N_Grove_palm_names [("self" : Str)] (defScope s_Grove_palm_names) := ⟨rfl, rfl, rfl, by decide +kernel, rfl, by decide +kernel, by decide +kernel⟩
def t_Grove_palm_names (K : PySem.W.Frag) : TS :=
  (tRet (tCB (uList K) (tCons (tFld K (tVar 0) ("own_palms" : Str)) tNil)))
theorem ok_Grove_palm_names {P : Program} {w : World} {K : PySem.W.Frag} {mg : Str → Option Value} {base : Heap} {sp : Sp} (T : Tx K mg)
    (len : ∀ vs H Q E, sp vs H Q E → vs.length = 1) (hp : ∀ vs H Q E, sp vs H Q E → t_Grove_palm_names K { nx := fun _ H' => Q .non H', rt := Q } (L2.start N_Grove_palm_names vs) H)
    {f : Addr} {fd : FuncData} (F : Fun K ("palm_names" : Str) ("Grove.palm_names" : Str) s_Grove_palm_names f fd) : FnOk P w K mg base CX0 1 f fd [("self" : Str)] sp := by
  have nd := sc_Grove_palm_names.nd
  refine F.ok sc_Grove_palm_names len (fun cdv A outer s H vs Q E hr h => ⟨t_Grove_palm_names K, ?_, hp vs H Q E h⟩)
  exact (pss_one (ps_ret (pe_callTy (cr_uList rfl) rfl T.b_list (by decide +kernel) (pa_cons (pe_fldD (pv 0)) pa_nil))))

abbrev s_Grove_years_of : Stmt := inClass (top 40) 10
abbrev N_Grove_years_of : List Str := [("self" : Str), ("name" : Str)]
theorem sc_Grove_years_of : FnScope N_Grove_years_of [("self" : Str), ("name" : Str)] (defScope s_Grove_years_of) := ⟨rfl, rfl, rfl, by decide +kernel, rfl, by decide +kernel, by decide +kernel⟩
def t_Grove_years_of (K : PySem.W.Frag) : TS :=
  (tRet (tOp (uIx K) (tOp (uIx K) (tFld K (tVar 0) ("own_palms" : Str)) (tVar 1)) (tC (.int 3))))
theorem ok_Grove_years_of {P : Program} {w : World} {K : PySem.W.Frag} {mg : Str → Option Value} {base : Heap} {sp : Sp} (T : Tx K mg)
    (len : ∀ vs H Q E, sp vs H Q E → vs.length = 2) (hp : ∀ vs H Q E, sp vs H Q E → t_Grove_years_of K { nx := fun _ H' => Q .non H', rt := Q } (L2.start N_Grove_years_of vs) H)
    {f : Addr} {fd : FuncData} (F : Fun K ("years_of" : Str) ("Grove.years_of" : Str) s_Grove_years_of f fd) : FnOk P w K mg base CX0 1 f fd [("self" : Str), ("name" : Str)] sp := by
  have nd := sc_Grove_years_of.nd
  refine F.ok sc_Grove_years_of len (fun cdv A outer s H vs Q E hr h => ⟨t_Grove_years_of K, ?_, hp vs H Q E h⟩)
  exact (pss_one (ps_ret (pe_ix (ix_u hr.units) (pe_ix (ix_u hr.units) (pe_fldD (pv 0)) (pv 1) (fun _ _ => rfl)) (pe_int) (fun _ _ => rfl))))

abbrev s_Grove_dates_of : Stmt := inClass (top 40) 11
abbrev N_Grove_dates_of : List Str := [("self" : Str), ("name" : Str)]
theorem sc_Grove_dates_of : FnScope N_Grove_dates_of [("self" : Str), ("name" : Str)] (defScope s_Grove_dates_of) := ⟨rfl, rfl, rfl, by decide +kernel, rfl, by decide +kernel, by decide +kernel⟩
def t_Grove_dates_of (K : PySem.W.Frag) : TS :=
  (tRet (tOp (uIx K) (tOp (uIx K) (tFld K (tVar 0) ("own_palms" : Str)) (tVar 1)) (tC (.int 4))))
theorem ok_Grove_dates_of {P : Program} {w : World} {K : PySem.W.Frag} {mg : Str → Option Value} {base : Heap} {sp : Sp} (T : Tx K mg)
    (len : ∀ vs H Q E, sp vs H Q E → vs.length = 2) (hp : ∀ vs H Q E, sp vs H Q E → t_Grove_dates_of K { nx := fun _ H' => Q .non H', rt := Q } (L2.start N_Grove_dates_of vs) H)
    {f : Addr} {fd : FuncData} (F : Fun K ("dates_of" : Str) ("Grove.dates_of" : Str) s_Grove_dates_of f fd) : FnOk P w K mg base CX0 1 f fd [("self" : Str), ("name" : Str)] sp := by
  have nd := sc_Grove_dates_of.nd
  refine F.ok sc_Grove_dates_of len (fun cdv A outer s H vs Q E hr h => ⟨t_Grove_dates_of K, ?_, hp vs H Q E h⟩)
  exact (pss_one (ps_ret (pe_ix (ix_u hr.units) (pe_ix (ix_u hr.units) (pe_fldD (pv 0)) (pv 1) (fun _ _ => rfl)) (pe_int) (fun _ _ => rfl))))

abbrev s_grove_of : Stmt := top 41
abbrev N_grove_of : List Str := [("turns" : Str), ("hands" : Str), ("palms" : Str), ("males" : Str), ("lines" : Str), ("kind" : Str), ("rows" : Str), ("row" : Str), ("part" : Str)]
theorem sc_grove_of : FnScope N_grove_of [("turns" : Str), ("hands" : Str), ("palms" : Str), ("males" : Str)] (defScope s_grove_of) := ⟨rfl, rfl, rfl, by decide +kernel, rfl, by decide +kernel, by decide +kernel⟩
def t_grove_of (K : PySem.W.Frag) (C_Grove : Addr) (sp_Grove___init__ : Sp) : TS :=
  (tSeq (tAsg (tLst (tCons (tM1 (rJoin K) (tC (.str (" " : Str))) (tLst (tCons (tC (.str ("grove" : Str))) (tCons (tCB (rStrI) (tCons (tVar 0) tNil)) (tCons (tCB (rStrI) (tCons (tVar 1) tNil)) tNil))))) tNil)) (gName 4)) (tSeq (tFor (iAny K (tTup (tCons (tTup (tCons (tC (.str ("palm" : Str))) (tCons (tVar 2) tNil))) (tCons (tTup (tCons (tC (.str ("male" : Str))) (tCons (tVar 3) tNil))) tNil)))) (gU K 2 (gCons (gName 5) (gCons (gName 6) gNil))) (tDrop (tBM K "list" (rExtend) (tVar 4) (tCons (tLc (iAny K (tVar 6)) (gName 7) tYes (tM1 (rJoin K) (tC (.str (" " : Str))) (tOp (uAdd K) (tLst (tCons (tVar 5) tNil)) (tLc (iAny K (tVar 7)) (gName 8) tYes (tCB (rStrI) (tCons (tVar 8) tNil)) [8]))) [7]) tNil)))) (tRet (tMake C_Grove sp_Grove___init__ [] E0 (tCons (tM1 (rJoin K) (tC (.str ("\n" : Str))) (tVar 4)) tNil)))))
theorem ok_grove_of {P : Program} {w : World} {K : PySem.W.Frag} {mg : Str → Option Value} {base : Heap} {sp : Sp} {C_Grove : Addr} {sp_Grove___init__ : Sp} (T : Tx K mg) (D_Grove___init__ : Di P w K mg base ("Grove" : Str) C_Grove 6 [("self" : Str), ("text" : Str)] sp_Grove___init__)
    (len : ∀ vs H Q E, sp vs H Q E → vs.length = 4) (hp : ∀ vs H Q E, sp vs H Q E → t_grove_of K C_Grove sp_Grove___init__ { nx := fun _ H' => Q .non H', rt := Q } (L2.start N_grove_of vs) H)
    {f : Addr} {fd : FuncData} (F : Fun K ("grove_of" : Str) ("grove_of" : Str) s_grove_of f fd) : FnOk P w K mg base CX0 8 f fd [("turns" : Str), ("hands" : Str), ("palms" : Str), ("males" : Str)] sp := by
  have nd := sc_grove_of.nd
  refine F.ok sc_grove_of len (fun cdv A outer s H vs Q E hr h => ⟨t_grove_of K C_Grove sp_Grove___init__, ?_, hp vs H Q E h⟩)
  exact (pss_cons (ps_set (i := 4) nd rfl (Or.inl rfl) (pe_lst (pa_cons (pe_join (pe_str) (pe_lst (pa_cons (pe_cst T.c_GROVE) (pa_cons (pe_callTy cr_uStr rfl T.b_str (by decide +kernel) (pa_cons (pv 0) pa_nil)) (pa_cons (pe_callTy cr_uStr rfl T.b_str (by decide +kernel) (pa_cons (pv 1) pa_nil)) pa_nil))))) pa_nil))) (pss_cons (ps_for PassesOwn.never rfl (pi_any (pe_tup (pa_cons (pe_tup (pa_cons (pe_cst T.c_PALM) (pa_cons (pv 2) pa_nil))) (pa_cons (pe_tup (pa_cons (pe_cst T.c_MALE) (pa_cons (pv 3) pa_nil))) pa_nil)))) (pg_gU rfl (pgs_cons (pg_name (i := 5) nd rfl (Or.inr rfl)) (pgs_cons (pg_name (i := 6) nd rfl (Or.inl rfl)) pgs_nil))) (pss_one (ps_expr (pe_bm PySem.F.plainAttrs_list PySem.F.slot_list_extend PySem.F.type_list_extend mt_extend (pv 4) (pa_cons (pe_lc (own := [(("row" : Str), 7)]) (g := (gName 7)) (tt := tYes) rfl nd (pi_any (pv 6)) (blkOk_by (N := N_grove_of) (sc := defScope s_grove_of) (by decide +kernel)) (fun _ _ _ _ _ => (pg_name (i := 7) nd rfl (Or.inl rfl))) (fun _ _ _ _ _ => pts_nil) (fun _ _ _ _ _ => (pe_join (pe_str) (pe_op op_uAdd (pe_lst (pa_cons (pv 5) pa_nil)) (pe_lc (own := [(("part" : Str), 8)]) (g := (gName 8)) (tt := tYes) rfl nd (pi_any (pv 7)) (blkOk_by (by rfl)) (fun _ _ _ _ _ => (pg_name (i := 8) nd rfl (Or.inl rfl))) (fun _ _ _ _ _ => pts_nil) (fun _ _ _ _ _ => (pe_callTy cr_uStr rfl T.b_str (by decide +kernel) (pa_cons (pv 8) pa_nil)))))))) pa_nil))))) (pss_one (ps_ret (pe_makeD D_Grove___init__ (hr.mono (by decide)) (pa_cons (pe_join (pe_str) (pv 4)) pa_nil))))))

abbrev s_is_day : Stmt := top 42
abbrev N_is_day : List Str := [("value" : Str)]
theorem sc_is_day : FnScope N_is_day [("value" : Str)] (defScope s_is_day) := ⟨rfl, rfl, rfl, by decide +kernel, rfl, by decide +kernel, by decide +kernel⟩
def t_is_day (K : PySem.W.Frag) (sp_is_between : Sp) : TS :=
  (tRet (tCall sp_is_between [] E0 (tCons (tVar 0) (tCons (tC (.int 0)) (tCons (tC (.int 999)) tNil)))))
theorem ok_is_day {P : Program} {w : World} {K : PySem.W.Frag} {mg : Str → Option Value} {base : Heap} {sp : Sp} {sp_is_between : Sp} (T : Tx K mg) (D_is_between : Df P w K mg base ("is_between" : Str) 2 [("value" : Str), ("least" : Str), ("most" : Str)] sp_is_between)
    (len : ∀ vs H Q E, sp vs H Q E → vs.length = 1) (hp : ∀ vs H Q E, sp vs H Q E → t_is_day K sp_is_between { nx := fun _ H' => Q .non H', rt := Q } (L2.start N_is_day vs) H)
    {f : Addr} {fd : FuncData} (F : Fun K ("is_day" : Str) ("is_day" : Str) s_is_day f fd) : FnOk P w K mg base CX0 3 f fd [("value" : Str)] sp := by
  have nd := sc_is_day.nd
  refine F.ok sc_is_day len (fun cdv A outer s H vs Q E hr h => ⟨t_is_day K sp_is_between, ?_, hp vs H Q E h⟩)
  exact (pss_one (ps_ret (pe_callD D_is_between (hr.mono (by decide)) (pa_cons (pv 0) (pa_cons (pe_int) (pa_cons (pe_cst T.c_LAST_DAY) pa_nil))))))

abbrev s_check_grove : Stmt := top 43
abbrev N_check_grove : List Str := [("grove" : Str)]
theorem sc_check_grove : FnScope N_check_grove [("grove" : Str)] (defScope s_check_grove) := ⟨rfl, rfl, rfl, by decide +kernel, rfl, by decide +kernel, by decide +kernel⟩
def t_check_grove (K : PySem.W.Frag) (C_Grove : Addr) : TS :=
  (tIfS (tNot (tB (tCB (rIsi K) (tCons (tVar 0) (tCons (tC (.ref C_Grove)) tNil))))) (tNever) tNext)
theorem ok_check_grove {P : Program} {w : World} {K : PySem.W.Frag} {mg : Str → Option Value} {base : Heap} {sp : Sp} {C_Grove : Addr} (T : Tx K mg) (c_Grove : Cst mg ("Grove" : Str) (.ref C_Grove))
    (len : ∀ vs H Q E, sp vs H Q E → vs.length = 1) (hp : ∀ vs H Q E, sp vs H Q E → t_check_grove K C_Grove { nx := fun _ H' => Q .non H', rt := Q } (L2.start N_check_grove vs) H)
    {f : Addr} {fd : FuncData} (F : Fun K ("check_grove" : Str) ("check_grove" : Str) s_check_grove f fd) : FnOk P w K mg base CX0 1 f fd [("grove" : Str)] sp := by
  have nd := sc_check_grove.nd
  refine F.ok sc_check_grove len (fun cdv A outer s H vs Q E hr h => ⟨t_check_grove K C_Grove, ?_, hp vs H Q E h⟩)
  exact (pss_one (ps_if (pt_not (pt_val (pe_callB call_isi rfl T.b_isinstance (by decide +kernel) (pa_cons (pv 0) (pa_cons (pe_cst (v := .ref C_Grove) c_Grove) pa_nil))))) (pss_one (ps_never)) pss_nil))

abbrev s_check_year : Stmt := top 44
abbrev N_check_year : List Str := [("year" : Str)]
theorem sc_check_year : FnScope N_check_year [("year" : Str)] (defScope s_check_year) := ⟨rfl, rfl, rfl, by decide +kernel, rfl, by decide +kernel, by decide +kernel⟩
def t_check_year (K : PySem.W.Frag) (sp_is_between : Sp) : TS :=
  (tIfS (tNot (tB (tCall sp_is_between [] E0 (tCons (tVar 0) (tCons (tC (.int 0)) (tCons (tC (.int 9999)) tNil)))))) (tNever) tNext)
theorem ok_check_year {P : Program} {w : World} {K : PySem.W.Frag} {mg : Str → Option Value} {base : Heap} {sp : Sp} {sp_is_between : Sp} (T : Tx K mg) (D_is_between : Df P w K mg base ("is_between" : Str) 2 [("value" : Str), ("least" : Str), ("most" : Str)] sp_is_between)
    (len : ∀ vs H Q E, sp vs H Q E → vs.length = 1) (hp : ∀ vs H Q E, sp vs H Q E → t_check_year K sp_is_between { nx := fun _ H' => Q .non H', rt := Q } (L2.start N_check_year vs) H)
    {f : Addr} {fd : FuncData} (F : Fun K ("check_year" : Str) ("check_year" : Str) s_check_year f fd) : FnOk P w K mg base CX0 3 f fd [("year" : Str)] sp := by
  have nd := sc_check_year.nd
  refine F.ok sc_check_year len (fun cdv A outer s H vs Q E hr h => ⟨t_check_year K sp_is_between, ?_, hp vs H Q E h⟩)
  exact (pss_one (ps_if (pt_not (pt_val (pe_callD D_is_between (hr.mono (by decide)) (pa_cons (pv 0) (pa_cons (pe_int) (pa_cons (pe_cst T.c_LAST_YEAR) pa_nil)))))) (pss_one (ps_never)) pss_nil))

abbrev s_bears_in : Stmt := top 45
abbrev N_bears_in : List Str := [("grove" : Str), ("palm" : Str), ("year" : Str), ("signs" : Str)]
theorem sc_bears_in : FnScope N_bears_in [("grove" : Str), ("palm" : Str), ("year" : Str)] (defScope s_bears_in) := ⟨rfl, rfl, rfl, by decide +kernel, rfl, by decide +kernel, by decide +kernel⟩
def t_bears_in (K : PySem.W.Frag) (C_Grove : Addr) (sp_Grove_years_of : Sp) : TS :=
  (tSeq (tAsg (tMeth C_Grove ("years_of" : Str) sp_Grove_years_of [] E0 (tVar 0) (tCons (tVar 1) tNil)) (gName 3)) (tRet (tOp (uEq K) (tOp (uIx K) (tVar 3) (tOp (uMod) (tVar 2) (tCB (uLen K) (tCons (tVar 3) tNil)))) (tC (.str ("1" : Str))))))
theorem ok_bears_in {P : Program} {w : World} {K : PySem.W.Frag} {mg : Str → Option Value} {base : Heap} {sp : Sp} {C_Grove : Addr} {sp_Grove_years_of : Sp} (T : Tx K mg) (D_Grove_years_of : Dmt P w K mg base C_Grove ("years_of" : Str) 1 [("self" : Str), ("name" : Str)] sp_Grove_years_of)
    (len : ∀ vs H Q E, sp vs H Q E → vs.length = 3) (hp : ∀ vs H Q E, sp vs H Q E → t_bears_in K C_Grove sp_Grove_years_of { nx := fun _ H' => Q .non H', rt := Q } (L2.start N_bears_in vs) H)
    {f : Addr} {fd : FuncData} (F : Fun K ("bears_in" : Str) ("bears_in" : Str) s_bears_in f fd) : FnOk P w K mg base CX0 2 f fd [("grove" : Str), ("palm" : Str), ("year" : Str)] sp := by
  have nd := sc_bears_in.nd
  refine F.ok sc_bears_in len (fun cdv A outer s H vs Q E hr h => ⟨t_bears_in K C_Grove sp_Grove_years_of, ?_, hp vs H Q E h⟩)
  exact (pss_cons (ps_set (i := 3) nd rfl (Or.inl rfl) (pe_methD D_Grove_years_of (hr.mono (by decide)) (pv 0) (pa_cons (pv 1) pa_nil))) (pss_one (ps_ret (pe_cmpR (op_uEq hr.units) (pe_ix (ix_u hr.units) (pv 3) (pe_op op_uMod (pv 2) (pe_callB cr_uLen rfl T.b_len (by decide +kernel) (pa_cons (pv 3) pa_nil))) (fun _ _ => rfl)) (pe_str) (nomark _)))))

abbrev s_baskets_in : Stmt := top 46
abbrev N_baskets_in : List Str := [("grove" : Str), ("year" : Str), ("palm" : Str)]
theorem sc_baskets_in : FnScope N_baskets_in [("grove" : Str), ("year" : Str)] (defScope s_baskets_in) := ⟨rfl, rfl, rfl, by decide +kernel, rfl, by decide +kernel, by decide +kernel⟩
def t_baskets_in (K : PySem.W.Frag) (C_Grove : Addr) (sp_Grove_palm_names : Sp) (sp_bears_in : Sp) (sp_Grove_dates_of : Sp) : TS :=
  (tRet (tCB (rSum K) (tCons (tLc (iAny K (tMeth C_Grove ("palm_names" : Str) sp_Grove_palm_names [] E0 (tVar 0) tNil)) (gName 2) (tB (tCall sp_bears_in [] E0 (tCons (tVar 0) (tCons (tVar 2) (tCons (tVar 1) tNil))))) (tMeth C_Grove ("dates_of" : Str) sp_Grove_dates_of [] E0 (tVar 0) (tCons (tVar 2) tNil)) [2]) tNil)))
theorem ok_baskets_in {P : Program} {w : World} {K : PySem.W.Frag} {mg : Str → Option Value} {base : Heap} {sp : Sp} {C_Grove : Addr} {sp_Grove_palm_names : Sp} {sp_bears_in : Sp} {sp_Grove_dates_of : Sp} (T : Tx K mg) (D_Grove_palm_names : Dmt P w K mg base C_Grove ("palm_names" : Str) 1 [("self" : Str)] sp_Grove_palm_names) (D_bears_in : Df P w K mg base ("bears_in" : Str) 2 [("grove" : Str), ("palm" : Str), ("year" : Str)] sp_bears_in) (D_Grove_dates_of : Dmt P w K mg base C_Grove ("dates_of" : Str) 1 [("self" : Str), ("name" : Str)] sp_Grove_dates_of)
    (len : ∀ vs H Q E, sp vs H Q E → vs.length = 2) (hp : ∀ vs H Q E, sp vs H Q E → t_baskets_in K C_Grove sp_Grove_palm_names sp_bears_in sp_Grove_dates_of { nx := fun _ H' => Q .non H', rt := Q } (L2.start N_baskets_in vs) H)
    {f : Addr} {fd : FuncData} (F : Fun K ("baskets_in" : Str) ("baskets_in" : Str) s_baskets_in f fd) : FnOk P w K mg base CX0 3 f fd [("grove" : Str), ("year" : Str)] sp := by
  have nd := sc_baskets_in.nd
  refine F.ok sc_baskets_in len (fun cdv A outer s H vs Q E hr h => ⟨t_baskets_in K C_Grove sp_Grove_palm_names sp_bears_in sp_Grove_dates_of, ?_, hp vs H Q E h⟩)
  exact (pss_one (ps_ret (pe_callB (cr_sum rfl) rfl T.b_sum (by decide +kernel) (pa_cons (pe_lc (own := [(("palm" : Str), 2)]) (g := (gName 2)) (tt := (tB (tCall sp_bears_in [] E0 (tCons (tVar 0) (tCons (tVar 2) (tCons (tVar 1) tNil)))))) rfl nd (pi_any (pe_meth0D D_Grove_palm_names (hr.mono (by decide)) (pv 0))) (blkOk_by (N := N_baskets_in) (sc := defScope s_baskets_in) (by decide +kernel)) (fun _ _ _ _ _ => (pg_name (i := 2) nd rfl (Or.inl rfl))) (fun _ _ _ _ _ => (pts_one (pt_val (pe_callD D_bears_in (hr.mono (by decide)) (pa_cons (pv 0) (pa_cons (pv 2) (pa_cons (pv 1) pa_nil))))))) (fun _ _ _ _ _ => (pe_methD D_Grove_dates_of (hr.mono (by decide)) (pv 0) (pa_cons (pv 2) pa_nil)))) pa_nil))))

abbrev s_baskets : Stmt := top 47
abbrev N_baskets : List Str := [("grove" : Str), ("year" : Str)]
theorem sc_baskets : FnScope N_baskets [("grove" : Str), ("year" : Str)] (defScope s_baskets) := ⟨rfl, rfl, rfl, by decide +kernel, rfl, by decide +kernel, by decide +kernel⟩
def t_baskets (K : PySem.W.Frag) (sp_check_grove : Sp) (sp_check_year : Sp) (sp_baskets_in : Sp) : TS :=
  (tSeq (tDrop (tCall sp_check_grove [] E0 (tCons (tVar 0) tNil))) (tSeq (tDrop (tCall sp_check_year [] E0 (tCons (tVar 1) tNil))) (tRet (tCall sp_baskets_in [] E0 (tCons (tVar 0) (tCons (tVar 1) tNil))))))
theorem ok_baskets {P : Program} {w : World} {K : PySem.W.Frag} {mg : Str → Option Value} {base : Heap} {sp : Sp} {sp_check_grove : Sp} {sp_check_year : Sp} {sp_baskets_in : Sp} (T : Tx K mg) (D_check_grove : Df P w K mg base ("check_grove" : Str) 1 [("grove" : Str)] sp_check_grove) (D_check_year : Df P w K mg base ("check_year" : Str) 3 [("year" : Str)] sp_check_year) (D_baskets_in : Df P w K mg base ("baskets_in" : Str) 3 [("grove" : Str), ("year" : Str)] sp_baskets_in)
    (len : ∀ vs H Q E, sp vs H Q E → vs.length = 2) (hp : ∀ vs H Q E, sp vs H Q E → t_baskets K sp_check_grove sp_check_year sp_baskets_in { nx := fun _ H' => Q .non H', rt := Q } (L2.start N_baskets vs) H)
    {f : Addr} {fd : FuncData} (F : Fun K ("baskets" : Str) ("baskets" : Str) s_baskets f fd) : FnOk P w K mg base CX0 4 f fd [("grove" : Str), ("year" : Str)] sp := by
  have nd := sc_baskets.nd
  refine F.ok sc_baskets len (fun cdv A outer s H vs Q E hr h => ⟨t_baskets K sp_check_grove sp_check_year sp_baskets_in, ?_, hp vs H Q E h⟩)
  exact (pss_cons (ps_expr (pe_callD D_check_grove (hr.mono (by decide)) (pa_cons (pv 0) pa_nil))) (pss_cons (ps_expr (pe_callD D_check_year (hr.mono (by decide)) (pa_cons (pv 1) pa_nil))) (pss_one (ps_ret (pe_callD D_baskets_in (hr.mono (by decide)) (pa_cons (pv 0) (pa_cons (pv 1) pa_nil)))))))

abbrev s_check_life : Stmt := top 51
abbrev N_check_life : List Str := [("life" : Str)]
theorem sc_check_life : FnScope N_check_life [("life" : Str)] (defScope s_check_life) := ⟨rfl, rfl, rfl, by decide +kernel, rfl, by decide +kernel, by decide +kernel⟩
def t_check_life (K : PySem.W.Frag) (sp_is_between : Sp) : TS :=
  (tSeq (tIfS ((tOr (tNot (tB (tCB (rIsi K) (tCons (tVar 0) (tCons (tC (.ty "tuple")) tNil))))) (tOr (tTest (tOp (uNe K) (tCB (uLen K) (tCons (tVar 0) tNil)) (tC (.int 2)))) (tNot (tB (tCall sp_is_between [] E0 (tCons (tOp (uIx K) (tVar 0) (tC (.int 1))) (tCons (tC (.int 1)) (tCons (tC (.int 60)) tNil))))))))) (tNever) tNext) (tIfS (tNot (tB (tCall sp_is_between [] E0 (tCons (tOp (uIx K) (tVar 0) (tC (.int 0))) (tCons (tC (.int 0)) (tCons (tOp (uSub) (tOp (uIx K) (tVar 0) (tC (.int 1))) (tC (.int 1))) tNil)))))) (tNever) tNext))
theorem ok_check_life {P : Program} {w : World} {K : PySem.W.Frag} {mg : Str → Option Value} {base : Heap} {sp : Sp} {sp_is_between : Sp} (T : Tx K mg) (D_is_between : Df P w K mg base ("is_between" : Str) 2 [("value" : Str), ("least" : Str), ("most" : Str)] sp_is_between)
    (len : ∀ vs H Q E, sp vs H Q E → vs.length = 1) (hp : ∀ vs H Q E, sp vs H Q E → t_check_life K sp_is_between { nx := fun _ H' => Q .non H', rt := Q } (L2.start N_check_life vs) H)
    {f : Addr} {fd : FuncData} (F : Fun K ("check_life" : Str) ("check_life" : Str) s_check_life f fd) : FnOk P w K mg base CX0 3 f fd [("life" : Str)] sp := by
  have nd := sc_check_life.nd
  refine F.ok sc_check_life len (fun cdv A outer s H vs Q E hr h => ⟨t_check_life K sp_is_between, ?_, hp vs H Q E h⟩)
  exact (pss_cons (ps_if (PW.pt (pw_or (pt_not (pt_val (pe_callB call_isi rfl T.b_isinstance (by decide +kernel) (pa_cons (pv 0) (pa_cons (pe_bltn rfl T.b_tuple (by decide +kernel) rfl) pa_nil))))) (pw_or (pt_cmpR (op_uNe hr.units) (pe_callB cr_uLen rfl T.b_len (by decide +kernel) (pa_cons (pv 0) pa_nil)) (pe_int) (nomark _)) (pw_or1 (pt_not (pt_val (pe_callD D_is_between (hr.mono (by decide)) (pa_cons (pe_ix (ix_u hr.units) (pv 0) (pe_int) (fun _ _ => rfl)) (pa_cons (pe_int) (pa_cons (pe_cst T.c_MOST_LONG) pa_nil)))))))))) (pss_one (ps_never)) pss_nil) (pss_one (ps_if (pt_not (pt_val (pe_callD D_is_between (hr.mono (by decide)) (pa_cons (pe_ix (ix_u hr.units) (pv 0) (pe_int) (fun _ _ => rfl)) (pa_cons (pe_int) (pa_cons (pe_op op_uSub (pe_ix (ix_u hr.units) (pv 0) (pe_int) (fun _ _ => rfl)) (pe_int)) pa_nil)))))) (pss_one (ps_never)) pss_nil)))

abbrev s_are_plants_of : Stmt := top 52
abbrev N_are_plants_of : List Str := [("life" : Str), ("value" : Str), ("plant" : Str), ("one" : Str), ("other" : Str)]
theorem sc_are_plants_of : FnScope N_are_plants_of [("life" : Str), ("value" : Str)] (defScope s_are_plants_of) := ⟨rfl, rfl, rfl, by decide +kernel, rfl, by decide +kernel, by decide +kernel⟩
def t_are_plants_of (K : PySem.W.Frag) (sp_is_between : Sp) : TS :=
  (tSeq (tIfS ((tOr (tNot (tB (tCB (rIsi K) (tCons (tVar 1) (tCons (tC (.ty "tuple")) tNil))))) (tTest (tOp (uGt) (tCB (uLen K) (tCons (tVar 1) tNil)) (tC (.int 60)))))) (tRet (tC (.bl false))) tNext) (tSeq (tIfS (tNot (tB (tCB (rAll K) (tCons (tLc (iAny K (tVar 1)) (gName 2) tYes (tCall sp_is_between [] E0 (tCons (tVar 2) (tCons (tC (.int 0)) (tCons (tOp (uSub) (tOp (uIx K) (tVar 0) (tC (.int 1))) (tC (.int 1))) tNil)))) [2]) tNil)))) (tRet (tC (.bl false))) tNext) (tRet (tCB (rAll K) (tCons (tLc (iZp K (tCons (tVar 1) (tCons (tSl (uSl K) (tVar 1) (tPart (tC (.int 1))) tNoPart) tNil))) (gU K 2 (gCons (gName 3) (gCons (gName 4) gNil))) tYes (tOp (uLe) (tVar 3) (tVar 4)) [3, 4]) tNil)))))
theorem ok_are_plants_of {P : Program} {w : World} {K : PySem.W.Frag} {mg : Str → Option Value} {base : Heap} {sp : Sp} {sp_is_between : Sp} (T : Tx K mg) (D_is_between : Df P w K mg base ("is_between" : Str) 2 [("value" : Str), ("least" : Str), ("most" : Str)] sp_is_between)
    (len : ∀ vs H Q E, sp vs H Q E → vs.length = 2) (hp : ∀ vs H Q E, sp vs H Q E → t_are_plants_of K sp_is_between { nx := fun _ H' => Q .non H', rt := Q } (L2.start N_are_plants_of vs) H)
    {f : Addr} {fd : FuncData} (F : Fun K ("are_plants_of" : Str) ("are_plants_of" : Str) s_are_plants_of f fd) : FnOk P w K mg base CX0 3 f fd [("life" : Str), ("value" : Str)] sp := by
  have nd := sc_are_plants_of.nd
  refine F.ok sc_are_plants_of len (fun cdv A outer s H vs Q E hr h => ⟨t_are_plants_of K sp_is_between, ?_, hp vs H Q E h⟩)
  exact (pss_cons (ps_if (PW.pt (pw_or (pt_not (pt_val (pe_callB call_isi rfl T.b_isinstance (by decide +kernel) (pa_cons (pv 1) (pa_cons (pe_bltn rfl T.b_tuple (by decide +kernel) rfl) pa_nil))))) (pw_or1 (pt_cmpR op_uGt (pe_callB cr_uLen rfl T.b_len (by decide +kernel) (pa_cons (pv 1) pa_nil)) (pe_cst T.c_MOST_PLANTS) (nomark _))))) (pss_one (ps_ret (pe_bl))) pss_nil) (pss_cons (ps_if (pt_not (pt_val (pe_callB (cr_all rfl) rfl T.b_all (by decide +kernel) (pa_cons (pe_lc (own := [(("plant" : Str), 2)]) (g := (gName 2)) (tt := tYes) rfl nd (pi_any (pv 1)) (blkOk_by (N := N_are_plants_of) (sc := defScope s_are_plants_of) (by decide +kernel)) (fun _ _ _ _ _ => (pg_name (i := 2) nd rfl (Or.inl rfl))) (fun _ _ _ _ _ => pts_nil) (fun _ _ _ _ _ => (pe_callD D_is_between (hr.mono (by decide)) (pa_cons (pv 2) (pa_cons (pe_int) (pa_cons (pe_op op_uSub (pe_ix (ix_u hr.units) (pv 0) (pe_int) (fun _ _ => rfl)) (pe_int)) pa_nil)))))) pa_nil)))) (pss_one (ps_ret (pe_bl))) pss_nil) (pss_one (ps_ret (pe_callB (cr_all rfl) rfl T.b_all (by decide +kernel) (pa_cons (pe_lc (own := [(("one" : Str), 3), (("other" : Str), 4)]) (g := (gU K 2 (gCons (gName 3) (gCons (gName 4) gNil)))) (tt := tYes) rfl nd (pi_zp rfl T.b_zip (pa_cons (pv 1) (pa_cons (pe_slice sl_u (pv 1) (po_some (pe_int)) po_none) pa_nil))) (blkOk_by (N := N_are_plants_of) (sc := defScope s_are_plants_of) (by decide +kernel)) (fun _ _ _ _ _ => (pg_gU rfl (pgs_cons (pg_name (i := 3) nd rfl (Or.inl rfl)) (pgs_cons (pg_name (i := 4) nd rfl (Or.inl rfl)) pgs_nil)))) (fun _ _ _ _ _ => pts_nil) (fun _ _ _ _ _ => (pe_cmpR op_uLe (pv 3) (pv 4) (nomark _)))) pa_nil))))))

abbrev s_check_plants : Stmt := top 53
abbrev N_check_plants : List Str := [("life" : Str), ("plants" : Str)]
theorem sc_check_plants : FnScope N_check_plants [("life" : Str), ("plants" : Str)] (defScope s_check_plants) := ⟨rfl, rfl, rfl, by decide +kernel, rfl, by decide +kernel, by decide +kernel⟩
def t_check_plants (K : PySem.W.Frag) (sp_check_life : Sp) (sp_are_plants_of : Sp) : TS :=
  (tSeq (tDrop (tCall sp_check_life [] E0 (tCons (tVar 0) tNil))) (tIfS (tNot (tB (tCall sp_are_plants_of [] E0 (tCons (tVar 0) (tCons (tVar 1) tNil))))) (tNever) tNext))
theorem ok_check_plants {P : Program} {w : World} {K : PySem.W.Frag} {mg : Str → Option Value} {base : Heap} {sp : Sp} {sp_check_life : Sp} {sp_are_plants_of : Sp} (T : Tx K mg) (D_check_life : Df P w K mg base ("check_life" : Str) 3 [("life" : Str)] sp_check_life) (D_are_plants_of : Df P w K mg base ("are_plants_of" : Str) 3 [("life" : Str), ("value" : Str)] sp_are_plants_of)
    (len : ∀ vs H Q E, sp vs H Q E → vs.length = 2) (hp : ∀ vs H Q E, sp vs H Q E → t_check_plants K sp_check_life sp_are_plants_of { nx := fun _ H' => Q .non H', rt := Q } (L2.start N_check_plants vs) H)
    {f : Addr} {fd : FuncData} (F : Fun K ("check_plants" : Str) ("check_plants" : Str) s_check_plants f fd) : FnOk P w K mg base CX0 4 f fd [("life" : Str), ("plants" : Str)] sp := by
  have nd := sc_check_plants.nd
  refine F.ok sc_check_plants len (fun cdv A outer s H vs Q E hr h => ⟨t_check_plants K sp_check_life sp_are_plants_of, ?_, hp vs H Q E h⟩)
  exact (pss_cons (ps_expr (pe_callD D_check_life (hr.mono (by decide)) (pa_cons (pv 0) pa_nil))) (pss_one (ps_if (pt_not (pt_val (pe_callD D_are_plants_of (hr.mono (by decide)) (pa_cons (pv 0) (pa_cons (pv 1) pa_nil))))) (pss_one (ps_never)) pss_nil)))

abbrev s_bearing_by : Stmt := top 54
abbrev N_bearing_by : List Str := [("life" : Str), ("plants" : Str), ("year" : Str), ("young" : Str), ("long" : Str), ("plant" : Str)]
theorem sc_bearing_by : FnScope N_bearing_by [("life" : Str), ("plants" : Str), ("year" : Str)] (defScope s_bearing_by) := ⟨rfl, rfl, rfl, by decide +kernel, rfl, by decide +kernel, by decide +kernel⟩
def t_bearing_by (K : PySem.W.Frag) : TS :=
  (tSeq (tAsg (tVar 0) (gU K 2 (gCons (gName 3) (gCons (gName 4) gNil)))) (tRet (tCB (uLen K) (tCons (tLc (iAny K (tVar 1)) (gName 5) (tTest (tOp (uGe) (tOp (uMod) (tOp (uSub) (tVar 2) (tVar 5)) (tVar 4)) (tVar 3))) (tC (.int 1)) [5]) tNil))))
theorem ok_bearing_by {P : Program} {w : World} {K : PySem.W.Frag} {mg : Str → Option Value} {base : Heap} {sp : Sp} (T : Tx K mg)
    (len : ∀ vs H Q E, sp vs H Q E → vs.length = 3) (hp : ∀ vs H Q E, sp vs H Q E → t_bearing_by K { nx := fun _ H' => Q .non H', rt := Q } (L2.start N_bearing_by vs) H)
    {f : Addr} {fd : FuncData} (F : Fun K ("bearing_by" : Str) ("bearing_by" : Str) s_bearing_by f fd) : FnOk P w K mg base CX0 1 f fd [("life" : Str), ("plants" : Str), ("year" : Str)] sp := by
  have nd := sc_bearing_by.nd
  refine F.ok sc_bearing_by len (fun cdv A outer s H vs Q E hr h => ⟨t_bearing_by K, ?_, hp vs H Q E h⟩)
  exact (pss_cons (ps_asg (pv 0) (pg_gU rfl (pgs_cons (pg_name (i := 3) nd rfl (Or.inr rfl)) (pgs_cons (pg_name (i := 4) nd rfl (Or.inr rfl)) pgs_nil)))) (pss_one (ps_ret (pe_callB cr_uLen rfl T.b_len (by decide +kernel) (pa_cons (pe_lc (own := [(("plant" : Str), 5)]) (g := (gName 5)) (tt := (tTest (tOp (uGe) (tOp (uMod) (tOp (uSub) (tVar 2) (tVar 5)) (tVar 4)) (tVar 3)))) rfl nd (pi_any (pv 1)) (blkOk_by (N := N_bearing_by) (sc := defScope s_bearing_by) (by decide +kernel)) (fun _ _ _ _ _ => (pg_name (i := 5) nd rfl (Or.inl rfl))) (fun _ _ _ _ _ => (pts_one (pt_cmpR op_uGe (pe_op op_uMod (pe_op op_uSub (pv 2) (pv 5)) (pv 4)) (pv 3) (nomark _)))) (fun _ _ _ _ _ => (pe_int))) pa_nil)))))

abbrev s_bearing : Stmt := top 55
abbrev N_bearing : List Str := [("life" : Str), ("plants" : Str), ("year" : Str)]
theorem sc_bearing : FnScope N_bearing [("life" : Str), ("plants" : Str), ("year" : Str)] (defScope s_bearing) := ⟨rfl, rfl, rfl, by decide +kernel, rfl, by decide +kernel, by decide +kernel⟩
def t_bearing (K : PySem.W.Frag) (sp_check_plants : Sp) (sp_check_year : Sp) (sp_bearing_by : Sp) : TS :=
  (tSeq (tDrop (tCall sp_check_plants [] E0 (tCons (tVar 0) (tCons (tVar 1) tNil)))) (tSeq (tDrop (tCall sp_check_year [] E0 (tCons (tVar 2) tNil))) (tRet (tCall sp_bearing_by [] E0 (tCons (tVar 0) (tCons (tVar 1) (tCons (tVar 2) tNil)))))))
theorem ok_bearing {P : Program} {w : World} {K : PySem.W.Frag} {mg : Str → Option Value} {base : Heap} {sp : Sp} {sp_check_plants : Sp} {sp_check_year : Sp} {sp_bearing_by : Sp} (T : Tx K mg) (D_check_plants : Df P w K mg base ("check_plants" : Str) 4 [("life" : Str), ("plants" : Str)] sp_check_plants) (D_check_year : Df P w K mg base ("check_year" : Str) 3 [("year" : Str)] sp_check_year) (D_bearing_by : Df P w K mg base ("bearing_by" : Str) 1 [("life" : Str), ("plants" : Str), ("year" : Str)] sp_bearing_by)
    (len : ∀ vs H Q E, sp vs H Q E → vs.length = 3) (hp : ∀ vs H Q E, sp vs H Q E → t_bearing K sp_check_plants sp_check_year sp_bearing_by { nx := fun _ H' => Q .non H', rt := Q } (L2.start N_bearing vs) H)
    {f : Addr} {fd : FuncData} (F : Fun K ("bearing" : Str) ("bearing" : Str) s_bearing f fd) : FnOk P w K mg base CX0 5 f fd [("life" : Str), ("plants" : Str), ("year" : Str)] sp := by
  have nd := sc_bearing.nd
  refine F.ok sc_bearing len (fun cdv A outer s H vs Q E hr h => ⟨t_bearing K sp_check_plants sp_check_year sp_bearing_by, ?_, hp vs H Q E h⟩)
  exact (pss_cons (ps_expr (pe_callD D_check_plants (hr.mono (by decide)) (pa_cons (pv 0) (pa_cons (pv 1) pa_nil)))) (pss_cons (ps_expr (pe_callD D_check_year (hr.mono (by decide)) (pa_cons (pv 2) pa_nil))) (pss_one (ps_ret (pe_callD D_bearing_by (hr.mono (by decide)) (pa_cons (pv 0) (pa_cons (pv 1) (pa_cons (pv 2) pa_nil))))))))

abbrev s_bearings_of : Stmt := top 56
abbrev N_bearings_of : List Str := [("life" : Str), ("plants" : Str), ("year" : Str)]
theorem sc_bearings_of : FnScope N_bearings_of [("life" : Str), ("plants" : Str)] (defScope s_bearings_of) := ⟨rfl, rfl, rfl, by decide +kernel, rfl, by decide +kernel, by decide +kernel⟩
def t_bearings_of (K : PySem.W.Frag) (sp_bearing_by : Sp) : TS :=
  (tRet (tLc (iRng1 (tCons (tOp (uIx K) (tVar 0) (tC (.int 1))) tNil)) (gName 2) tYes (tCall sp_bearing_by [] E0 (tCons (tVar 0) (tCons (tVar 1) (tCons (tVar 2) tNil)))) [2]))
theorem ok_bearings_of {P : Program} {w : World} {K : PySem.W.Frag} {mg : Str → Option Value} {base : Heap} {sp : Sp} {sp_bearing_by : Sp} (T : Tx K mg) (D_bearing_by : Df P w K mg base ("bearing_by" : Str) 1 [("life" : Str), ("plants" : Str), ("year" : Str)] sp_bearing_by)
    (len : ∀ vs H Q E, sp vs H Q E → vs.length = 2) (hp : ∀ vs H Q E, sp vs H Q E → t_bearings_of K sp_bearing_by { nx := fun _ H' => Q .non H', rt := Q } (L2.start N_bearings_of vs) H)
    {f : Addr} {fd : FuncData} (F : Fun K ("bearings_of" : Str) ("bearings_of" : Str) s_bearings_of f fd) : FnOk P w K mg base CX0 2 f fd [("life" : Str), ("plants" : Str)] sp := by
  have nd := sc_bearings_of.nd
  refine F.ok sc_bearings_of len (fun cdv A outer s H vs Q E hr h => ⟨t_bearings_of K sp_bearing_by, ?_, hp vs H Q E h⟩)
  exact (pss_one (ps_ret (pe_lc (own := [(("year" : Str), 2)]) (g := (gName 2)) (tt := tYes) rfl nd (pi_range1 rfl T.b_range (pa_cons (pe_ix (ix_u hr.units) (pv 0) (pe_int) (fun _ _ => rfl)) pa_nil)) (blkOk_by (N := N_bearings_of) (sc := defScope s_bearings_of) (by decide +kernel)) (fun _ _ _ _ _ => (pg_name (i := 2) nd rfl (Or.inl rfl))) (fun _ _ _ _ _ => pts_nil) (fun _ _ _ _ _ => (pe_callD D_bearing_by (hr.mono (by decide)) (pa_cons (pv 0) (pa_cons (pv 1) (pa_cons (pv 2) pa_nil))))))))

abbrev s_least_bearing : Stmt := top 57
abbrev N_least_bearing : List Str := [("life" : Str), ("plants" : Str), ("rows" : Str)]
theorem sc_least_bearing : FnScope N_least_bearing [("life" : Str), ("plants" : Str)] (defScope s_least_bearing) := ⟨rfl, rfl, rfl, by decide +kernel, rfl, by decide +kernel, by decide +kernel⟩
def t_least_bearing (K : PySem.W.Frag) (sp_check_plants : Sp) (sp_bearings_of : Sp) : TS :=
  (tSeq (tDrop (tCall sp_check_plants [] E0 (tCons (tVar 0) (tCons (tVar 1) tNil)))) (tSeq (tAsg (tCall sp_bearings_of [] E0 (tCons (tVar 0) (tCons (tVar 1) tNil))) (gName 2)) (tRet (tTup (tCons (tCB (uMin K) (tCons (tVar 2) tNil)) (tCons (tBM K "list" (rIndex K) (tVar 2) (tCons (tCB (uMin K) (tCons (tVar 2) tNil)) tNil)) tNil))))))
theorem ok_least_bearing {P : Program} {w : World} {K : PySem.W.Frag} {mg : Str → Option Value} {base : Heap} {sp : Sp} {sp_check_plants : Sp} {sp_bearings_of : Sp} (T : Tx K mg) (D_check_plants : Df P w K mg base ("check_plants" : Str) 4 [("life" : Str), ("plants" : Str)] sp_check_plants) (D_bearings_of : Df P w K mg base ("bearings_of" : Str) 2 [("life" : Str), ("plants" : Str)] sp_bearings_of)
    (len : ∀ vs H Q E, sp vs H Q E → vs.length = 2) (hp : ∀ vs H Q E, sp vs H Q E → t_least_bearing K sp_check_plants sp_bearings_of { nx := fun _ H' => Q .non H', rt := Q } (L2.start N_least_bearing vs) H)
    {f : Addr} {fd : FuncData} (F : Fun K ("least_bearing" : Str) ("least_bearing" : Str) s_least_bearing f fd) : FnOk P w K mg base CX0 5 f fd [("life" : Str), ("plants" : Str)] sp := by
  have nd := sc_least_bearing.nd
  refine F.ok sc_least_bearing len (fun cdv A outer s H vs Q E hr h => ⟨t_least_bearing K sp_check_plants sp_bearings_of, ?_, hp vs H Q E h⟩)
  exact (pss_cons (ps_expr (pe_callD D_check_plants (hr.mono (by decide)) (pa_cons (pv 0) (pa_cons (pv 1) pa_nil)))) (pss_cons (ps_set (i := 2) nd rfl (Or.inl rfl) (pe_callD D_bearings_of (hr.mono (by decide)) (pa_cons (pv 0) (pa_cons (pv 1) pa_nil)))) (pss_one (ps_ret (pe_tup (pa_cons (pe_callB (cr_uMin rfl) rfl T.b_min (by decide +kernel) (pa_cons (pv 2) pa_nil)) (pa_cons (pe_bm PySem.F.plainAttrs_list PySem.F.slot_list_index PySem.F.type_list_index mt_index (pv 2) (pa_cons (pe_callB (cr_uMin rfl) rfl T.b_min (by decide +kernel) (pa_cons (pv 2) pa_nil)) pa_nil)) pa_nil)))))))

abbrev s_most_bearing : Stmt := top 58
abbrev N_most_bearing : List Str := [("life" : Str), ("plants" : Str), ("rows" : Str)]
theorem sc_most_bearing : FnScope N_most_bearing [("life" : Str), ("plants" : Str)] (defScope s_most_bearing) := ⟨rfl, rfl, rfl, by decide +kernel, rfl, by decide +kernel, by decide +kernel⟩
def t_most_bearing (K : PySem.W.Frag) (sp_check_plants : Sp) (sp_bearings_of : Sp) : TS :=
  (tSeq (tDrop (tCall sp_check_plants [] E0 (tCons (tVar 0) (tCons (tVar 1) tNil)))) (tSeq (tAsg (tCall sp_bearings_of [] E0 (tCons (tVar 0) (tCons (tVar 1) tNil))) (gName 2)) (tRet (tTup (tCons (tCB (uMax K) (tCons (tVar 2) tNil)) (tCons (tBM K "list" (rIndex K) (tVar 2) (tCons (tCB (uMax K) (tCons (tVar 2) tNil)) tNil)) tNil))))))
theorem ok_most_bearing {P : Program} {w : World} {K : PySem.W.Frag} {mg : Str → Option Value} {base : Heap} {sp : Sp} {sp_check_plants : Sp} {sp_bearings_of : Sp} (T : Tx K mg) (D_check_plants : Df P w K mg base ("check_plants" : Str) 4 [("life" : Str), ("plants" : Str)] sp_check_plants) (D_bearings_of : Df P w K mg base ("bearings_of" : Str) 2 [("life" : Str), ("plants" : Str)] sp_bearings_of)
    (len : ∀ vs H Q E, sp vs H Q E → vs.length = 2) (hp : ∀ vs H Q E, sp vs H Q E → t_most_bearing K sp_check_plants sp_bearings_of { nx := fun _ H' => Q .non H', rt := Q } (L2.start N_most_bearing vs) H)
    {f : Addr} {fd : FuncData} (F : Fun K ("most_bearing" : Str) ("most_bearing" : Str) s_most_bearing f fd) : FnOk P w K mg base CX0 5 f fd [("life" : Str), ("plants" : Str)] sp := by
  have nd := sc_most_bearing.nd
  refine F.ok sc_most_bearing len (fun cdv A outer s H vs Q E hr h => ⟨t_most_bearing K sp_check_plants sp_bearings_of, ?_, hp vs H Q E h⟩)
  exact (pss_cons (ps_expr (pe_callD D_check_plants (hr.mono (by decide)) (pa_cons (pv 0) (pa_cons (pv 1) pa_nil)))) (pss_cons (ps_set (i := 2) nd rfl (Or.inl rfl) (pe_callD D_bearings_of (hr.mono (by decide)) (pa_cons (pv 0) (pa_cons (pv 1) pa_nil)))) (pss_one (ps_ret (pe_tup (pa_cons (pe_callB (cr_uMax rfl) rfl T.b_max (by decide +kernel) (pa_cons (pv 2) pa_nil)) (pa_cons (pe_bm PySem.F.plainAttrs_list PySem.F.slot_list_index PySem.F.type_list_index mt_index (pv 2) (pa_cons (pe_callB (cr_uMax rfl) rfl T.b_max (by decide +kernel) (pa_cons (pv 2) pa_nil)) pa_nil)) pa_nil)))))))

abbrev s_check_number : Stmt := top 60
abbrev N_check_number : List Str := [("number" : Str)]
theorem sc_check_number : FnScope N_check_number [("number" : Str)] (defScope s_check_number) := ⟨rfl, rfl, rfl, by decide +kernel, rfl, by decide +kernel, by decide +kernel⟩
def t_check_number (K : PySem.W.Frag) (sp_is_between : Sp) : TS :=
  (tIfS (tNot (tB (tCall sp_is_between [] E0 (tCons (tVar 0) (tCons (tC (.int 0)) (tCons (tC (.int 60)) tNil)))))) (tNever) tNext)
theorem ok_check_number {P : Program} {w : World} {K : PySem.W.Frag} {mg : Str → Option Value} {base : Heap} {sp : Sp} {sp_is_between : Sp} (T : Tx K mg) (D_is_between : Df P w K mg base ("is_between" : Str) 2 [("value" : Str), ("least" : Str), ("most" : Str)] sp_is_between)
    (len : ∀ vs H Q E, sp vs H Q E → vs.length = 1) (hp : ∀ vs H Q E, sp vs H Q E → t_check_number K sp_is_between { nx := fun _ H' => Q .non H', rt := Q } (L2.start N_check_number vs) H)
    {f : Addr} {fd : FuncData} (F : Fun K ("check_number" : Str) ("check_number" : Str) s_check_number f fd) : FnOk P w K mg base CX0 3 f fd [("number" : Str)] sp := by
  have nd := sc_check_number.nd
  refine F.ok sc_check_number len (fun cdv A outer s H vs Q E hr h => ⟨t_check_number K sp_is_between, ?_, hp vs H Q E h⟩)
  exact (pss_one (ps_if (pt_not (pt_val (pe_callD D_is_between (hr.mono (by decide)) (pa_cons (pv 0) (pa_cons (pe_int) (pa_cons (pe_cst T.c_MOST_PLANTS) pa_nil)))))) (pss_one (ps_never)) pss_nil))

abbrev s_even_plants : Stmt := top 61
abbrev N_even_plants : List Str := [("life" : Str), ("many" : Str), ("at" : Str)]
theorem sc_even_plants : FnScope N_even_plants [("life" : Str), ("many" : Str)] (defScope s_even_plants) := ⟨rfl, rfl, rfl, by decide +kernel, rfl, by decide +kernel, by decide +kernel⟩
def t_even_plants (K : PySem.W.Frag) : TS :=
  (tRet (tCB (rTupS K) (tCons (tLc (iRng1 (tCons (tVar 1) tNil)) (gName 2) tYes (tOp (uDiv) (tOp (uMul K) (tVar 2) (tOp (uIx K) (tVar 0) (tC (.int 1)))) (tVar 1)) [2]) tNil)))
theorem ok_even_plants {P : Program} {w : World} {K : PySem.W.Frag} {mg : Str → Option Value} {base : Heap} {sp : Sp} (T : Tx K mg)
    (len : ∀ vs H Q E, sp vs H Q E → vs.length = 2) (hp : ∀ vs H Q E, sp vs H Q E → t_even_plants K { nx := fun _ H' => Q .non H', rt := Q } (L2.start N_even_plants vs) H)
    {f : Addr} {fd : FuncData} (F : Fun K ("even_plants" : Str) ("even_plants" : Str) s_even_plants f fd) : FnOk P w K mg base CX0 1 f fd [("life" : Str), ("many" : Str)] sp := by
  have nd := sc_even_plants.nd
  refine F.ok sc_even_plants len (fun cdv A outer s H vs Q E hr h => ⟨t_even_plants K, ?_, hp vs H Q E h⟩)
  exact (pss_one (ps_ret (pe_callTy cr_uTup rfl T.b_tuple (by decide +kernel) (pa_cons (pe_lc (own := [(("at" : Str), 2)]) (g := (gName 2)) (tt := tYes) rfl nd (pi_range1 rfl T.b_range (pa_cons (pv 1) pa_nil)) (blkOk_by (N := N_even_plants) (sc := defScope s_even_plants) (by decide +kernel)) (fun _ _ _ _ _ => (pg_name (i := 2) nd rfl (Or.inl rfl))) (fun _ _ _ _ _ => pts_nil) (fun _ _ _ _ _ => (pe_op op_uDiv (pe_op op_uMul (pv 2) (pe_ix (ix_u hr.units) (pv 0) (pe_int) (fun _ _ => rfl))) (pv 1)))) pa_nil))))

abbrev s_most_always : Stmt := top 62
abbrev N_most_always : List Str := [("life" : Str), ("many" : Str)]
theorem sc_most_always : FnScope N_most_always [("life" : Str), ("many" : Str)] (defScope s_most_always) := ⟨rfl, rfl, rfl, by decide +kernel, rfl, by decide +kernel, by decide +kernel⟩
def t_most_always (K : PySem.W.Frag) : TS :=
  (tRet (tOp (uDiv) (tOp (uMul K) (tVar 1) (tOp (uSub) (tOp (uIx K) (tVar 0) (tC (.int 1))) (tOp (uIx K) (tVar 0) (tC (.int 0))))) (tOp (uIx K) (tVar 0) (tC (.int 1)))))
theorem ok_most_always {P : Program} {w : World} {K : PySem.W.Frag} {mg : Str → Option Value} {base : Heap} {sp : Sp} (T : Tx K mg)
    (len : ∀ vs H Q E, sp vs H Q E → vs.length = 2) (hp : ∀ vs H Q E, sp vs H Q E → t_most_always K { nx := fun _ H' => Q .non H', rt := Q } (L2.start N_most_always vs) H)
    {f : Addr} {fd : FuncData} (F : Fun K ("most_always" : Str) ("most_always" : Str) s_most_always f fd) : FnOk P w K mg base CX0 1 f fd [("life" : Str), ("many" : Str)] sp := by
  have nd := sc_most_always.nd
  refine F.ok sc_most_always len (fun cdv A outer s H vs Q E hr h => ⟨t_most_always K, ?_, hp vs H Q E h⟩)
  exact (pss_one (ps_ret (pe_op op_uDiv (pe_op op_uMul (pv 1) (pe_op op_uSub (pe_ix (ix_u hr.units) (pv 0) (pe_int) (fun _ _ => rfl)) (pe_ix (ix_u hr.units) (pv 0) (pe_int) (fun _ _ => rfl)))) (pe_ix (ix_u hr.units) (pv 0) (pe_int) (fun _ _ => rfl)))))

abbrev s_best_plants : Stmt := top 63
abbrev N_best_plants : List Str := [("life" : Str), ("many" : Str)]
theorem sc_best_plants : FnScope N_best_plants [("life" : Str), ("many" : Str)] (defScope s_best_plants) := ⟨rfl, rfl, rfl, by decide +kernel, rfl, by decide +kernel, by decide +kernel⟩
def t_best_plants (K : PySem.W.Frag) (sp_check_life : Sp) (sp_check_number : Sp) (sp_even_plants : Sp) (sp_most_always : Sp) : TS :=
  (tSeq (tDrop (tCall sp_check_life [] E0 (tCons (tVar 0) tNil))) (tSeq (tDrop (tCall sp_check_number [] E0 (tCons (tVar 1) tNil))) (tRet (tTup (tCons (tCall sp_most_always [] E0 (tCons (tVar 0) (tCons (tVar 1) tNil))) (tCons (tCall sp_even_plants [] E0 (tCons (tVar 0) (tCons (tVar 1) tNil))) tNil))))))
theorem ok_best_plants {P : Program} {w : World} {K : PySem.W.Frag} {mg : Str → Option Value} {base : Heap} {sp : Sp} {sp_check_life : Sp} {sp_check_number : Sp} {sp_even_plants : Sp} {sp_most_always : Sp} (T : Tx K mg) (D_check_life : Df P w K mg base ("check_life" : Str) 3 [("life" : Str)] sp_check_life) (D_check_number : Df P w K mg base ("check_number" : Str) 3 [("number" : Str)] sp_check_number) (D_even_plants : Df P w K mg base ("even_plants" : Str) 1 [("life" : Str), ("many" : Str)] sp_even_plants) (D_most_always : Df P w K mg base ("most_always" : Str) 1 [("life" : Str), ("many" : Str)] sp_most_always)
    (len : ∀ vs H Q E, sp vs H Q E → vs.length = 2) (hp : ∀ vs H Q E, sp vs H Q E → t_best_plants K sp_check_life sp_check_number sp_even_plants sp_most_always { nx := fun _ H' => Q .non H', rt := Q } (L2.start N_best_plants vs) H)
    {f : Addr} {fd : FuncData} (F : Fun K ("best_plants" : Str) ("best_plants" : Str) s_best_plants f fd) : FnOk P w K mg base CX0 4 f fd [("life" : Str), ("many" : Str)] sp := by
  have nd := sc_best_plants.nd
  refine F.ok sc_best_plants len (fun cdv A outer s H vs Q E hr h => ⟨t_best_plants K sp_check_life sp_check_number sp_even_plants sp_most_always, ?_, hp vs H Q E h⟩)
  exact (pss_cons (ps_expr (pe_callD D_check_life (hr.mono (by decide)) (pa_cons (pv 0) pa_nil))) (pss_cons (ps_expr (pe_callD D_check_number (hr.mono (by decide)) (pa_cons (pv 1) pa_nil))) (pss_one (ps_ret (pe_tup (pa_cons (pe_callD D_most_always (hr.mono (by decide)) (pa_cons (pv 0) (pa_cons (pv 1) pa_nil))) (pa_cons (pe_callD D_even_plants (hr.mono (by decide)) (pa_cons (pv 0) (pa_cons (pv 1) pa_nil))) pa_nil)))))))

abbrev s_check_enough : Stmt := top 64
abbrev N_check_enough : List Str := [("life" : Str), ("least" : Str), ("many" : Str)]
theorem sc_check_enough : FnScope N_check_enough [("life" : Str), ("least" : Str)] (defScope s_check_enough) := ⟨rfl, rfl, rfl, by decide +kernel, rfl, by decide +kernel, by decide +kernel⟩
def t_check_enough (K : PySem.W.Frag) (sp_check_life : Sp) (sp_check_number : Sp) : TS :=
  (tSeq (tDrop (tCall sp_check_life [] E0 (tCons (tVar 0) tNil))) (tSeq (tDrop (tCall sp_check_number [] E0 (tCons (tVar 1) tNil))) (tSeq (tAsg (tOp (uSub) (tC (.int 0)) (tOp (uDiv) (tOp (uSub) (tC (.int 0)) (tOp (uMul K) (tVar 1) (tOp (uIx K) (tVar 0) (tC (.int 1))))) (tOp (uSub) (tOp (uIx K) (tVar 0) (tC (.int 1))) (tOp (uIx K) (tVar 0) (tC (.int 0)))))) (gName 2)) (tSeq (tIfS (tTest (tOp (uGt) (tVar 2) (tC (.int 60)))) (tNever) tNext) (tRet (tVar 2))))))
theorem ok_check_enough {P : Program} {w : World} {K : PySem.W.Frag} {mg : Str → Option Value} {base : Heap} {sp : Sp} {sp_check_life : Sp} {sp_check_number : Sp} (T : Tx K mg) (D_check_life : Df P w K mg base ("check_life" : Str) 3 [("life" : Str)] sp_check_life) (D_check_number : Df P w K mg base ("check_number" : Str) 3 [("number" : Str)] sp_check_number)
    (len : ∀ vs H Q E, sp vs H Q E → vs.length = 2) (hp : ∀ vs H Q E, sp vs H Q E → t_check_enough K sp_check_life sp_check_number { nx := fun _ H' => Q .non H', rt := Q } (L2.start N_check_enough vs) H)
    {f : Addr} {fd : FuncData} (F : Fun K ("check_enough" : Str) ("check_enough" : Str) s_check_enough f fd) : FnOk P w K mg base CX0 4 f fd [("life" : Str), ("least" : Str)] sp := by
  have nd := sc_check_enough.nd
  refine F.ok sc_check_enough len (fun cdv A outer s H vs Q E hr h => ⟨t_check_enough K sp_check_life sp_check_number, ?_, hp vs H Q E h⟩)
  exact (pss_cons (ps_expr (pe_callD D_check_life (hr.mono (by decide)) (pa_cons (pv 0) pa_nil))) (pss_cons (ps_expr (pe_callD D_check_number (hr.mono (by decide)) (pa_cons (pv 1) pa_nil))) (pss_cons (ps_set (i := 2) nd rfl (Or.inl rfl) (pe_op op_uSub (pe_int) (pe_op op_uDiv (pe_op op_uSub (pe_int) (pe_op op_uMul (pv 1) (pe_ix (ix_u hr.units) (pv 0) (pe_int) (fun _ _ => rfl)))) (pe_op op_uSub (pe_ix (ix_u hr.units) (pv 0) (pe_int) (fun _ _ => rfl)) (pe_ix (ix_u hr.units) (pv 0) (pe_int) (fun _ _ => rfl)))))) (pss_cons (ps_if (pt_cmpR op_uGt (pv 2) (pe_cst T.c_MOST_PLANTS) (nomark _)) (pss_one (ps_never)) pss_nil) (pss_one (ps_ret (pv 2)))))))

abbrev s_enough_plants : Stmt := top 65
abbrev N_enough_plants : List Str := [("life" : Str), ("least" : Str), ("many" : Str)]
theorem sc_enough_plants : FnScope N_enough_plants [("life" : Str), ("least" : Str)] (defScope s_enough_plants) := ⟨rfl, rfl, rfl, by decide +kernel, rfl, by decide +kernel, by decide +kernel⟩
def t_enough_plants (K : PySem.W.Frag) (sp_check_enough : Sp) (sp_even_plants : Sp) : TS :=
  (tSeq (tAsg (tCall sp_check_enough [] E0 (tCons (tVar 0) (tCons (tVar 1) tNil))) (gName 2)) (tRet (tTup (tCons (tVar 2) (tCons (tCall sp_even_plants [] E0 (tCons (tVar 0) (tCons (tVar 2) tNil))) tNil)))))
theorem ok_enough_plants {P : Program} {w : World} {K : PySem.W.Frag} {mg : Str → Option Value} {base : Heap} {sp : Sp} {sp_check_enough : Sp} {sp_even_plants : Sp} (T : Tx K mg) (D_check_enough : Df P w K mg base ("check_enough" : Str) 4 [("life" : Str), ("least" : Str)] sp_check_enough) (D_even_plants : Df P w K mg base ("even_plants" : Str) 1 [("life" : Str), ("many" : Str)] sp_even_plants)
    (len : ∀ vs H Q E, sp vs H Q E → vs.length = 2) (hp : ∀ vs H Q E, sp vs H Q E → t_enough_plants K sp_check_enough sp_even_plants { nx := fun _ H' => Q .non H', rt := Q } (L2.start N_enough_plants vs) H)
    {f : Addr} {fd : FuncData} (F : Fun K ("enough_plants" : Str) ("enough_plants" : Str) s_enough_plants f fd) : FnOk P w K mg base CX0 5 f fd [("life" : Str), ("least" : Str)] sp := by
  have nd := sc_enough_plants.nd
  refine F.ok sc_enough_plants len (fun cdv A outer s H vs Q E hr h => ⟨t_enough_plants K sp_check_enough sp_even_plants, ?_, hp vs H Q E h⟩)
  exact (pss_cons (ps_set (i := 2) nd rfl (Or.inl rfl) (pe_callD D_check_enough (hr.mono (by decide)) (pa_cons (pv 0) (pa_cons (pv 1) pa_nil)))) (pss_one (ps_ret (pe_tup (pa_cons (pv 2) (pa_cons (pe_callD D_even_plants (hr.mono (by decide)) (pa_cons (pv 0) (pa_cons (pv 2) pa_nil))) pa_nil))))))

abbrev s_bits_of : Stmt := top 71
abbrev N_bits_of : List Str := [("grove" : Str), ("palm" : Str), ("year" : Str)]
theorem sc_bits_of : FnScope N_bits_of [("grove" : Str), ("palm" : Str)] (defScope s_bits_of) := ⟨rfl, rfl, rfl, by decide +kernel, rfl, by decide +kernel, by decide +kernel⟩
def t_bits_of (K : PySem.W.Frag) (sp_bears_in : Sp) : TS :=
  (tRet (tLc (iRng1 (tCons (tC (.int 60)) tNil)) (gName 2) tYes (tCall sp_bears_in [] E0 (tCons (tVar 0) (tCons (tVar 1) (tCons (tVar 2) tNil)))) [2]))
theorem ok_bits_of {P : Program} {w : World} {K : PySem.W.Frag} {mg : Str → Option Value} {base : Heap} {sp : Sp} {sp_bears_in : Sp} (T : Tx K mg) (D_bears_in : Df P w K mg base ("bears_in" : Str) 2 [("grove" : Str), ("palm" : Str), ("year" : Str)] sp_bears_in)
    (len : ∀ vs H Q E, sp vs H Q E → vs.length = 2) (hp : ∀ vs H Q E, sp vs H Q E → t_bits_of K sp_bears_in { nx := fun _ H' => Q .non H', rt := Q } (L2.start N_bits_of vs) H)
    {f : Addr} {fd : FuncData} (F : Fun K ("bits_of" : Str) ("bits_of" : Str) s_bits_of f fd) : FnOk P w K mg base CX0 3 f fd [("grove" : Str), ("palm" : Str)] sp := by
  have nd := sc_bits_of.nd
  refine F.ok sc_bits_of len (fun cdv A outer s H vs Q E hr h => ⟨t_bits_of K sp_bears_in, ?_, hp vs H Q E h⟩)
  exact (pss_one (ps_ret (pe_lc (own := [(("year" : Str), 2)]) (g := (gName 2)) (tt := tYes) rfl nd (pi_range1 rfl T.b_range (pa_cons (pe_cst T.c_SIXTY_bearing) pa_nil)) (blkOk_by (N := N_bits_of) (sc := defScope s_bits_of) (by decide +kernel)) (fun _ _ _ _ _ => (pg_name (i := 2) nd rfl (Or.inl rfl))) (fun _ _ _ _ _ => pts_nil) (fun _ _ _ _ _ => (pe_callD D_bears_in (hr.mono (by decide)) (pa_cons (pv 0) (pa_cons (pv 1) (pa_cons (pv 2) pa_nil))))))))

abbrev s_years_of_lot : Stmt := top 72
abbrev N_years_of_lot : List Str := [("grove" : Str), ("lot" : Str), ("rows" : Str), ("palm" : Str), ("year" : Str), ("row" : Str)]
theorem sc_years_of_lot : FnScope N_years_of_lot [("grove" : Str), ("lot" : Str)] (defScope s_years_of_lot) := ⟨rfl, rfl, rfl, by decide +kernel, rfl, by decide +kernel, by decide +kernel⟩
def t_years_of_lot (K : PySem.W.Frag) (sp_bits_of : Sp) : TS :=
  (tSeq (tAsg (tLc (iAny K (tVar 1)) (gName 3) tYes (tCall sp_bits_of [] E0 (tCons (tVar 0) (tCons (tVar 3) tNil))) [3]) (gName 2)) (tRet (tLc (iRng1 (tCons (tC (.int 60)) tNil)) (gName 4) (tB (tCB (rAll K) (tCons (tLc (iAny K (tVar 2)) (gName 5) tYes (tOp (uIx K) (tVar 5) (tVar 4)) [5]) tNil))) (tVar 4) [4])))
theorem ok_years_of_lot {P : Program} {w : World} {K : PySem.W.Frag} {mg : Str → Option Value} {base : Heap} {sp : Sp} {sp_bits_of : Sp} (T : Tx K mg) (D_bits_of : Df P w K mg base ("bits_of" : Str) 3 [("grove" : Str), ("palm" : Str)] sp_bits_of)
    (len : ∀ vs H Q E, sp vs H Q E → vs.length = 2) (hp : ∀ vs H Q E, sp vs H Q E → t_years_of_lot K sp_bits_of { nx := fun _ H' => Q .non H', rt := Q } (L2.start N_years_of_lot vs) H)
    {f : Addr} {fd : FuncData} (F : Fun K ("years_of_lot" : Str) ("years_of_lot" : Str) s_years_of_lot f fd) : FnOk P w K mg base CX0 4 f fd [("grove" : Str), ("lot" : Str)] sp := by
  have nd := sc_years_of_lot.nd
  refine F.ok sc_years_of_lot len (fun cdv A outer s H vs Q E hr h => ⟨t_years_of_lot K sp_bits_of, ?_, hp vs H Q E h⟩)
  exact (pss_cons (ps_set (i := 2) nd rfl (Or.inr rfl) (pe_lc (own := [(("palm" : Str), 3)]) (g := (gName 3)) (tt := tYes) rfl nd (pi_any (pv 1)) (blkOk_by (N := N_years_of_lot) (sc := defScope s_years_of_lot) (by decide +kernel)) (fun _ _ _ _ _ => (pg_name (i := 3) nd rfl (Or.inl rfl))) (fun _ _ _ _ _ => pts_nil) (fun _ _ _ _ _ => (pe_callD D_bits_of (hr.mono (by decide)) (pa_cons (pv 0) (pa_cons (pv 3) pa_nil)))))) (pss_one (ps_ret (pe_lc (own := [(("year" : Str), 4)]) (g := (gName 4)) (tt := (tB (tCB (rAll K) (tCons (tLc (iAny K (tVar 2)) (gName 5) tYes (tOp (uIx K) (tVar 5) (tVar 4)) [5]) tNil)))) rfl nd (pi_range1 rfl T.b_range (pa_cons (pe_cst T.c_SIXTY_bearing) pa_nil)) (blkOk_by (N := N_years_of_lot) (sc := defScope s_years_of_lot) (by decide +kernel)) (fun _ _ _ _ _ => (pg_name (i := 4) nd rfl (Or.inr rfl))) (fun _ _ _ _ _ => (pts_one (pt_val (pe_callB (cr_all rfl) rfl T.b_all (by decide +kernel) (pa_cons (pe_lc (own := [(("row" : Str), 5)]) (g := (gName 5)) (tt := tYes) rfl nd (pi_any (pv 2)) (blkOk_by (by rfl)) (fun _ _ _ _ _ => (pg_name (i := 5) nd rfl (Or.inl rfl))) (fun _ _ _ _ _ => pts_nil) (fun _ _ _ _ _ => (pe_ix (ix_u hr.units) (pv 5) (pv 4) (fun _ _ => rfl)))) pa_nil))))) (fun _ _ _ _ _ => (pv 4))))))

abbrev s_lap_of : Stmt := top 73
abbrev N_lap_of : List Str := [("years" : Str), ("laps" : Str), ("lap" : Str), ("year" : Str)]
theorem sc_lap_of : FnScope N_lap_of [("years" : Str)] (defScope s_lap_of) := ⟨rfl, rfl, rfl, by decide +kernel, rfl, by decide +kernel, by decide +kernel⟩
def t_lap_of (K : PySem.W.Frag) : TS :=
  (tSeq (tAsg (tLc (iRng2 (tCons (tC (.int 1)) (tCons (tOp (uAdd K) (tC (.int 60)) (tC (.int 1))) tNil))) (gName 2) (tTest (tOp (uEq K) (tOp (uMod) (tC (.int 60)) (tVar 2)) (tC (.int 0)))) (tVar 2) [2]) (gName 1)) (tRet (tOp (uIx K) (tLc (iAny K (tVar 1)) (gName 2) (tB (tCB (rAll K) (tCons (tLc (iAny K (tVar 0)) (gName 3) tYes (tOp (uIn K) (tOp (uMod) (tOp (uAdd K) (tVar 3) (tVar 2)) (tC (.int 60))) (tVar 0)) [3]) tNil))) (tVar 2) [2]) (tC (.int 0)))))
theorem ok_lap_of {P : Program} {w : World} {K : PySem.W.Frag} {mg : Str → Option Value} {base : Heap} {sp : Sp} (T : Tx K mg)
    (len : ∀ vs H Q E, sp vs H Q E → vs.length = 1) (hp : ∀ vs H Q E, sp vs H Q E → t_lap_of K { nx := fun _ H' => Q .non H', rt := Q } (L2.start N_lap_of vs) H)
    {f : Addr} {fd : FuncData} (F : Fun K ("lap_of" : Str) ("lap_of" : Str) s_lap_of f fd) : FnOk P w K mg base CX0 1 f fd [("years" : Str)] sp := by
  have nd := sc_lap_of.nd
  refine F.ok sc_lap_of len (fun cdv A outer s H vs Q E hr h => ⟨t_lap_of K, ?_, hp vs H Q E h⟩)
  exact (pss_cons (ps_setLc (i := 1) (own := [(("lap" : Str), 2)]) (g := (gName 2)) (tt := (tTest (tOp (uEq K) (tOp (uMod) (tC (.int 60)) (tVar 2)) (tC (.int 0))))) rfl nd rfl rfl (sw_true rfl rfl rfl (by decide +kernel)) (pi_range2 rfl T.b_range (pa_cons (pe_int) (pa_cons (pe_op op_uAdd (pe_cst T.c_SIXTY_bearing) (pe_int)) pa_nil))) (blkOk_by (N := N_lap_of) (sc := defScope s_lap_of) (by decide +kernel)) (fun _ _ _ _ _ => (pg_name (i := 2) nd rfl (Or.inl rfl))) (fun _ _ _ _ _ => (pts_one (pt_cmpR (op_uEq hr.units) (pe_op op_uMod (pe_cst T.c_SIXTY_bearing) (pv 2)) (pe_int) (nomark _)))) (fun _ _ _ _ _ => (pv 2))) (pss_one (ps_ret (pe_ix (ix_u hr.units) (pe_lc (own := [(("lap" : Str), 2)]) (g := (gName 2)) (tt := (tB (tCB (rAll K) (tCons (tLc (iAny K (tVar 0)) (gName 3) tYes (tOp (uIn K) (tOp (uMod) (tOp (uAdd K) (tVar 3) (tVar 2)) (tC (.int 60))) (tVar 0)) [3]) tNil)))) rfl nd (pi_any (pv 1)) (blkOk_by (N := N_lap_of) (sc := defScope s_lap_of) (by decide +kernel)) (fun _ _ _ _ _ => (pg_name (i := 2) nd rfl (Or.inr rfl))) (fun _ _ _ _ _ => (pts_one (pt_val (pe_callB (cr_all rfl) rfl T.b_all (by decide +kernel) (pa_cons (pe_lc (own := [(("year" : Str), 3)]) (g := (gName 3)) (tt := tYes) rfl nd (pi_any (pv 0)) (blkOk_by (by rfl)) (fun _ _ _ _ _ => (pg_name (i := 3) nd rfl (Or.inl rfl))) (fun _ _ _ _ _ => pts_nil) (fun _ _ _ _ _ => (pe_cmpR (op_uIn hr.units) (pe_op op_uMod (pe_op op_uAdd (pv 3) (pv 2)) (pe_cst T.c_SIXTY_bearing)) (pv 0) (by rfl)))) pa_nil))))) (fun _ _ _ _ _ => (pv 2))) (pe_int) (fun _ _ => rfl)))))

abbrev s_lots_by_size : Stmt := top 74
abbrev N_lots_by_size : List Str := [("names" : Str), ("rows" : Str), ("name" : Str), ("row" : Str)]
theorem sc_lots_by_size : FnScope N_lots_by_size [("names" : Str)] (defScope s_lots_by_size) := ⟨rfl, rfl, rfl, by decide +kernel, rfl, by decide +kernel, by decide +kernel⟩
def t_lots_by_size (K : PySem.W.Frag) : TS :=
  (tSeq (tAsg (tLst (tCons (tTup tNil) tNil)) (gName 1)) (tSeq (tFor (iAny K (tVar 0)) (gName 2) (tAsg (tOp (uAdd K) (tVar 1) (tLc (iAny K (tVar 1)) (gName 3) tYes (tTup (tStar K (tVar 3) (tCons (tVar 2) tNil))) [3])) (gName 1))) (tRet (tSortLen K (tCons (tVar 1) tNil)))))
theorem ok_lots_by_size {P : Program} {w : World} {K : PySem.W.Frag} {mg : Str → Option Value} {base : Heap} {sp : Sp} (T : Tx K mg)
    (len : ∀ vs H Q E, sp vs H Q E → vs.length = 1) (hp : ∀ vs H Q E, sp vs H Q E → t_lots_by_size K { nx := fun _ H' => Q .non H', rt := Q } (L2.start N_lots_by_size vs) H)
    {f : Addr} {fd : FuncData} (F : Fun K ("lots_by_size" : Str) ("lots_by_size" : Str) s_lots_by_size f fd) : FnOk P w K mg base CX0 1 f fd [("names" : Str)] sp := by
  have nd := sc_lots_by_size.nd
  refine F.ok sc_lots_by_size len (fun cdv A outer s H vs Q E hr h => ⟨t_lots_by_size K, ?_, hp vs H Q E h⟩)
  exact (pss_cons (ps_set (i := 1) nd rfl (Or.inl rfl) (pe_lst (pa_cons (pe_tup pa_nil) pa_nil))) (pss_cons (ps_for PassesOwn.never rfl (pi_any (pv 0)) (pg_name (i := 2) nd rfl (Or.inr rfl)) (pss_one (ps_set (i := 1) nd rfl (Or.inl rfl) (pe_op op_uAdd (pv 1) (pe_lc (own := [(("row" : Str), 3)]) (g := (gName 3)) (tt := tYes) rfl nd (pi_any (pv 1)) (blkOk_by (N := N_lots_by_size) (sc := defScope s_lots_by_size) (by decide +kernel)) (fun _ _ _ _ _ => (pg_name (i := 3) nd rfl (Or.inl rfl))) (fun _ _ _ _ _ => pts_nil) (fun _ _ _ _ _ => (pe_tup (pa_star (pv 3) (pa_cons (pv 2) pa_nil))))))))) (pss_one (ps_ret (pe_sortLen rfl T.b_sorted rfl T.b_len hr.units (pa_cons (pv 1) pa_nil))))))

abbrev s_told_years : Stmt := top 75
abbrev N_told_years : List Str := [("grove" : Str), ("years_in" : Str), ("word" : Str), ("names" : Str), ("years" : Str), ("lot" : Str)]
theorem sc_told_years : FnScope N_told_years [("grove" : Str), ("years_in" : Str), ("word" : Str)] (defScope s_told_years) := ⟨rfl, rfl, rfl, by decide +kernel, rfl, by decide +kernel, by decide +kernel⟩
def t_told_years (K : PySem.W.Frag) (C_Grove : Addr) (sp_Grove_palm_names : Sp) (sp_lap_of : Sp) (sp_lots_by_size : Sp) (S_years_in : Addr → Option Sp) : TS :=
  (tSeq (tAsg (tMeth C_Grove ("palm_names" : Str) sp_Grove_palm_names [] E0 (tVar 0) tNil) (gName 3)) (tSeq (tAsg (tCallA 1 S_years_in (tCons (tVar 0) (tCons (tVar 3) tNil))) (gName 4)) (tSeq (tIfS (tTest (tOp (uNe K) (tVar 4) (tLst tNil))) (tRet (tTup (tCons (tC (.str ("year" : Str))) (tCons (tOp (uIx K) (tVar 4) (tC (.int 0))) (tCons (tCall sp_lap_of [] E0 (tCons (tVar 4) tNil)) tNil))))) tNext) (tRet (tTup (tCons (tVar 2) (tCons (tOp (uIx K) (tLc (iAny K (tCall sp_lots_by_size [] E0 (tCons (tVar 3) tNil))) (gName 5) (tTest (tOp (uEq K) (tCallA 1 S_years_in (tCons (tVar 0) (tCons (tVar 5) tNil))) (tLst tNil))) (tVar 5) [5]) (tC (.int 0))) tNil)))))))
theorem ok_told_years {P : Program} {w : World} {K : PySem.W.Frag} {mg : Str → Option Value} {base : Heap} {sp : Sp} {C_Grove : Addr} {sp_Grove_palm_names : Sp} {sp_lap_of : Sp} {sp_lots_by_size : Sp} {S_years_in : Addr → Option Sp} (T : Tx K mg) (D_Grove_palm_names : Dmt P w K mg base C_Grove ("palm_names" : Str) 1 [("self" : Str)] sp_Grove_palm_names) (D_lap_of : Df P w K mg base ("lap_of" : Str) 1 [("years" : Str)] sp_lap_of) (D_lots_by_size : Df P w K mg base ("lots_by_size" : Str) 1 [("names" : Str)] sp_lots_by_size) (A_years_in : ∀ f sp, S_years_in f = some sp → Held P w K mg base 4 f sp)
    (len : ∀ vs H Q E, sp vs H Q E → vs.length = 3) (hp : ∀ vs H Q E, sp vs H Q E → t_told_years K C_Grove sp_Grove_palm_names sp_lap_of sp_lots_by_size S_years_in { nx := fun _ H' => Q .non H', rt := Q } (L2.start N_told_years vs) H)
    {f : Addr} {fd : FuncData} (F : Fun K ("told_years" : Str) ("told_years" : Str) s_told_years f fd) : FnOk P w K mg base CX0 5 f fd [("grove" : Str), ("years_in" : Str), ("word" : Str)] sp := by
  have nd := sc_told_years.nd
  refine F.ok sc_told_years len (fun cdv A outer s H vs Q E hr h => ⟨t_told_years K C_Grove sp_Grove_palm_names sp_lap_of sp_lots_by_size S_years_in, ?_, hp vs H Q E h⟩)
  exact (pss_cons (ps_set (i := 3) nd rfl (Or.inl rfl) (pe_meth0D D_Grove_palm_names (hr.mono (by decide)) (pv 0))) (pss_cons (ps_set (i := 4) nd rfl (Or.inl rfl) (pe_callA A_years_in (hr.mono (by decide)) rfl (by first | exact .inl rfl | exact .inr (.inl rfl) | exact .inr (.inr rfl)) (pa_cons (pv 0) (pa_cons (pv 3) pa_nil)))) (pss_cons (ps_if (pt_cmpR (op_uNe hr.units) (pv 4) (pe_lst pa_nil) (nomark _)) (pss_one (ps_ret (pe_tup (pa_cons (pe_cst T.c_YEAR) (pa_cons (pe_ix (ix_u hr.units) (pv 4) (pe_int) (fun _ _ => rfl)) (pa_cons (pe_callD D_lap_of (hr.mono (by decide)) (pa_cons (pv 4) pa_nil)) pa_nil)))))) pss_nil) (pss_one (ps_ret (pe_tup (pa_cons (pv 2) (pa_cons (pe_ix (ix_u hr.units) (pe_lc (own := [(("lot" : Str), 5)]) (g := (gName 5)) (tt := (tTest (tOp (uEq K) (tCallA 1 S_years_in (tCons (tVar 0) (tCons (tVar 5) tNil))) (tLst tNil)))) rfl nd (pi_any (pe_callD D_lots_by_size (hr.mono (by decide)) (pa_cons (pv 3) pa_nil))) (blkOk_by (N := N_told_years) (sc := defScope s_told_years) (by decide +kernel)) (fun _ _ _ _ _ => (pg_name (i := 5) nd rfl (Or.inl rfl))) (fun _ _ _ _ _ => (pts_one (pt_cmpR (op_uEq hr.units) (pe_callA A_years_in (hr.mono (by decide)) rfl (by first | exact .inl rfl | exact .inr (.inl rfl) | exact .inr (.inr rfl)) (pa_cons (pv 0) (pa_cons (pv 5) pa_nil))) (pe_lst pa_nil) (nomark _)))) (fun _ _ _ _ _ => (pv 5))) (pe_int) (fun _ _ => rfl)) pa_nil))))))))

abbrev s_all_bear : Stmt := top 76
abbrev N_all_bear : List Str := [("grove" : Str)]
theorem sc_all_bear : FnScope N_all_bear [("grove" : Str)] (defScope s_all_bear) := ⟨rfl, rfl, rfl, by decide +kernel, rfl, by decide +kernel, by decide +kernel⟩
def t_all_bear (K : PySem.W.Frag) (f_years_of_lot : Addr) (sp_check_grove : Sp) (sp_told_years : Sp) : TS :=
  (tSeq (tDrop (tCall sp_check_grove [] E0 (tCons (tVar 0) tNil))) (tRet (tCall sp_told_years [] E0 (tCons (tVar 0) (tCons (tC (.ref f_years_of_lot)) (tCons (tC (.str ("never" : Str))) tNil))))))
theorem ok_all_bear {P : Program} {w : World} {K : PySem.W.Frag} {mg : Str → Option Value} {base : Heap} {sp : Sp} {f_years_of_lot : Addr} {sp_check_grove : Sp} {sp_told_years : Sp} (T : Tx K mg) (c_years_of_lot : Cst mg ("years_of_lot" : Str) (.ref f_years_of_lot)) (D_check_grove : Df P w K mg base ("check_grove" : Str) 1 [("grove" : Str)] sp_check_grove) (D_told_years : Df P w K mg base ("told_years" : Str) 5 [("grove" : Str), ("years_in" : Str), ("word" : Str)] sp_told_years)
    (len : ∀ vs H Q E, sp vs H Q E → vs.length = 1) (hp : ∀ vs H Q E, sp vs H Q E → t_all_bear K f_years_of_lot sp_check_grove sp_told_years { nx := fun _ H' => Q .non H', rt := Q } (L2.start N_all_bear vs) H)
    {f : Addr} {fd : FuncData} (F : Fun K ("all_bear" : Str) ("all_bear" : Str) s_all_bear f fd) : FnOk P w K mg base CX0 6 f fd [("grove" : Str)] sp := by
  have nd := sc_all_bear.nd
  refine F.ok sc_all_bear len (fun cdv A outer s H vs Q E hr h => ⟨t_all_bear K f_years_of_lot sp_check_grove sp_told_years, ?_, hp vs H Q E h⟩)
  exact (pss_cons (ps_expr (pe_callD D_check_grove (hr.mono (by decide)) (pa_cons (pv 0) pa_nil))) (pss_one (ps_ret (pe_callD D_told_years (hr.mono (by decide)) (pa_cons (pv 0) (pa_cons (pe_cst c_years_of_lot) (pa_cons (pe_cst T.c_NEVER) pa_nil)))))))

abbrev s_sums_of : Stmt := top 77
abbrev N_sums_of : List Str := [("grove" : Str), ("year" : Str)]
theorem sc_sums_of : FnScope N_sums_of [("grove" : Str)] (defScope s_sums_of) := ⟨rfl, rfl, rfl, by decide +kernel, rfl, by decide +kernel, by decide +kernel⟩
def t_sums_of (K : PySem.W.Frag) (sp_baskets_in : Sp) : TS :=
  (tRet (tLc (iRng1 (tCons (tC (.int 60)) tNil)) (gName 1) tYes (tCall sp_baskets_in [] E0 (tCons (tVar 0) (tCons (tVar 1) tNil))) [1]))
theorem ok_sums_of {P : Program} {w : World} {K : PySem.W.Frag} {mg : Str → Option Value} {base : Heap} {sp : Sp} {sp_baskets_in : Sp} (T : Tx K mg) (D_baskets_in : Df P w K mg base ("baskets_in" : Str) 3 [("grove" : Str), ("year" : Str)] sp_baskets_in)
    (len : ∀ vs H Q E, sp vs H Q E → vs.length = 1) (hp : ∀ vs H Q E, sp vs H Q E → t_sums_of K sp_baskets_in { nx := fun _ H' => Q .non H', rt := Q } (L2.start N_sums_of vs) H)
    {f : Addr} {fd : FuncData} (F : Fun K ("sums_of" : Str) ("sums_of" : Str) s_sums_of f fd) : FnOk P w K mg base CX0 4 f fd [("grove" : Str)] sp := by
  have nd := sc_sums_of.nd
  refine F.ok sc_sums_of len (fun cdv A outer s H vs Q E hr h => ⟨t_sums_of K sp_baskets_in, ?_, hp vs H Q E h⟩)
  exact (pss_one (ps_ret (pe_lc (own := [(("year" : Str), 1)]) (g := (gName 1)) (tt := tYes) rfl nd (pi_range1 rfl T.b_range (pa_cons (pe_cst T.c_SIXTY_bearing) pa_nil)) (blkOk_by (N := N_sums_of) (sc := defScope s_sums_of) (by decide +kernel)) (fun _ _ _ _ _ => (pg_name (i := 1) nd rfl (Or.inl rfl))) (fun _ _ _ _ _ => pts_nil) (fun _ _ _ _ _ => (pe_callD D_baskets_in (hr.mono (by decide)) (pa_cons (pv 0) (pa_cons (pv 1) pa_nil)))))))

abbrev s_most_baskets : Stmt := top 78
abbrev N_most_baskets : List Str := [("grove" : Str), ("sums" : Str)]
theorem sc_most_baskets : FnScope N_most_baskets [("grove" : Str)] (defScope s_most_baskets) := ⟨rfl, rfl, rfl, by decide +kernel, rfl, by decide +kernel, by decide +kernel⟩
def t_most_baskets (K : PySem.W.Frag) (sp_check_grove : Sp) (sp_sums_of : Sp) : TS :=
  (tSeq (tDrop (tCall sp_check_grove [] E0 (tCons (tVar 0) tNil))) (tSeq (tAsg (tCall sp_sums_of [] E0 (tCons (tVar 0) tNil)) (gName 1)) (tRet (tTup (tCons (tCB (uMax K) (tCons (tVar 1) tNil)) (tCons (tBM K "list" (rIndex K) (tVar 1) (tCons (tCB (uMax K) (tCons (tVar 1) tNil)) tNil)) tNil))))))
theorem ok_most_baskets {P : Program} {w : World} {K : PySem.W.Frag} {mg : Str → Option Value} {base : Heap} {sp : Sp} {sp_check_grove : Sp} {sp_sums_of : Sp} (T : Tx K mg) (D_check_grove : Df P w K mg base ("check_grove" : Str) 1 [("grove" : Str)] sp_check_grove) (D_sums_of : Df P w K mg base ("sums_of" : Str) 4 [("grove" : Str)] sp_sums_of)
    (len : ∀ vs H Q E, sp vs H Q E → vs.length = 1) (hp : ∀ vs H Q E, sp vs H Q E → t_most_baskets K sp_check_grove sp_sums_of { nx := fun _ H' => Q .non H', rt := Q } (L2.start N_most_baskets vs) H)
    {f : Addr} {fd : FuncData} (F : Fun K ("most_baskets" : Str) ("most_baskets" : Str) s_most_baskets f fd) : FnOk P w K mg base CX0 5 f fd [("grove" : Str)] sp := by
  have nd := sc_most_baskets.nd
  refine F.ok sc_most_baskets len (fun cdv A outer s H vs Q E hr h => ⟨t_most_baskets K sp_check_grove sp_sums_of, ?_, hp vs H Q E h⟩)
  exact (pss_cons (ps_expr (pe_callD D_check_grove (hr.mono (by decide)) (pa_cons (pv 0) pa_nil))) (pss_cons (ps_set (i := 1) nd rfl (Or.inl rfl) (pe_callD D_sums_of (hr.mono (by decide)) (pa_cons (pv 0) pa_nil))) (pss_one (ps_ret (pe_tup (pa_cons (pe_callB (cr_uMax rfl) rfl T.b_max (by decide +kernel) (pa_cons (pv 1) pa_nil)) (pa_cons (pe_bm PySem.F.plainAttrs_list PySem.F.slot_list_index PySem.F.type_list_index mt_index (pv 1) (pa_cons (pe_callB (cr_uMax rfl) rfl T.b_max (by decide +kernel) (pa_cons (pv 1) pa_nil)) pa_nil)) pa_nil)))))))

abbrev s_least_baskets : Stmt := top 79
abbrev N_least_baskets : List Str := [("grove" : Str), ("sums" : Str)]
theorem sc_least_baskets : FnScope N_least_baskets [("grove" : Str)] (defScope s_least_baskets) := ⟨rfl, rfl, rfl, by decide +kernel, rfl, by decide +kernel, by decide +kernel⟩
def t_least_baskets (K : PySem.W.Frag) (sp_check_grove : Sp) (sp_sums_of : Sp) : TS :=
  (tSeq (tDrop (tCall sp_check_grove [] E0 (tCons (tVar 0) tNil))) (tSeq (tAsg (tCall sp_sums_of [] E0 (tCons (tVar 0) tNil)) (gName 1)) (tRet (tTup (tCons (tCB (uMin K) (tCons (tVar 1) tNil)) (tCons (tBM K "list" (rIndex K) (tVar 1) (tCons (tCB (uMin K) (tCons (tVar 1) tNil)) tNil)) tNil))))))
theorem ok_least_baskets {P : Program} {w : World} {K : PySem.W.Frag} {mg : Str → Option Value} {base : Heap} {sp : Sp} {sp_check_grove : Sp} {sp_sums_of : Sp} (T : Tx K mg) (D_check_grove : Df P w K mg base ("check_grove" : Str) 1 [("grove" : Str)] sp_check_grove) (D_sums_of : Df P w K mg base ("sums_of" : Str) 4 [("grove" : Str)] sp_sums_of)
    (len : ∀ vs H Q E, sp vs H Q E → vs.length = 1) (hp : ∀ vs H Q E, sp vs H Q E → t_least_baskets K sp_check_grove sp_sums_of { nx := fun _ H' => Q .non H', rt := Q } (L2.start N_least_baskets vs) H)
    {f : Addr} {fd : FuncData} (F : Fun K ("least_baskets" : Str) ("least_baskets" : Str) s_least_baskets f fd) : FnOk P w K mg base CX0 5 f fd [("grove" : Str)] sp := by
  have nd := sc_least_baskets.nd
  refine F.ok sc_least_baskets len (fun cdv A outer s H vs Q E hr h => ⟨t_least_baskets K sp_check_grove sp_sums_of, ?_, hp vs H Q E h⟩)
  exact (pss_cons (ps_expr (pe_callD D_check_grove (hr.mono (by decide)) (pa_cons (pv 0) pa_nil))) (pss_cons (ps_set (i := 1) nd rfl (Or.inl rfl) (pe_callD D_sums_of (hr.mono (by decide)) (pa_cons (pv 0) pa_nil))) (pss_one (ps_ret (pe_tup (pa_cons (pe_callB (cr_uMin rfl) rfl T.b_min (by decide +kernel) (pa_cons (pv 1) pa_nil)) (pa_cons (pe_bm PySem.F.plainAttrs_list PySem.F.slot_list_index PySem.F.type_list_index mt_index (pv 1) (pa_cons (pe_callB (cr_uMin rfl) rfl T.b_min (by decide +kernel) (pa_cons (pv 1) pa_nil)) pa_nil)) pa_nil)))))))

abbrev s_mean_baskets : Stmt := top 80
abbrev N_mean_baskets : List Str := [("grove" : Str)]
theorem sc_mean_baskets : FnScope N_mean_baskets [("grove" : Str)] (defScope s_mean_baskets) := ⟨rfl, rfl, rfl, by decide +kernel, rfl, by decide +kernel, by decide +kernel⟩
def t_mean_baskets (K : PySem.W.Frag) (sp_check_grove : Sp) (sp_reduced : Sp) (sp_sums_of : Sp) : TS :=
  (tSeq (tDrop (tCall sp_check_grove [] E0 (tCons (tVar 0) tNil))) (tRet (tCall sp_reduced [] E0 (tCons (tCB (rSum K) (tCons (tCall sp_sums_of [] E0 (tCons (tVar 0) tNil)) tNil)) (tCons (tC (.int 60)) tNil)))))
theorem ok_mean_baskets {P : Program} {w : World} {K : PySem.W.Frag} {mg : Str → Option Value} {base : Heap} {sp : Sp} {sp_check_grove : Sp} {sp_reduced : Sp} {sp_sums_of : Sp} (T : Tx K mg) (D_check_grove : Df P w K mg base ("check_grove" : Str) 1 [("grove" : Str)] sp_check_grove) (D_reduced : Df P w K mg base ("reduced" : Str) 2 [("top" : Str), ("low" : Str)] sp_reduced) (D_sums_of : Df P w K mg base ("sums_of" : Str) 4 [("grove" : Str)] sp_sums_of)
    (len : ∀ vs H Q E, sp vs H Q E → vs.length = 1) (hp : ∀ vs H Q E, sp vs H Q E → t_mean_baskets K sp_check_grove sp_reduced sp_sums_of { nx := fun _ H' => Q .non H', rt := Q } (L2.start N_mean_baskets vs) H)
    {f : Addr} {fd : FuncData} (F : Fun K ("mean_baskets" : Str) ("mean_baskets" : Str) s_mean_baskets f fd) : FnOk P w K mg base CX0 5 f fd [("grove" : Str)] sp := by
  have nd := sc_mean_baskets.nd
  refine F.ok sc_mean_baskets len (fun cdv A outer s H vs Q E hr h => ⟨t_mean_baskets K sp_check_grove sp_reduced sp_sums_of, ?_, hp vs H Q E h⟩)
  exact (pss_cons (ps_expr (pe_callD D_check_grove (hr.mono (by decide)) (pa_cons (pv 0) pa_nil))) (pss_one (ps_ret (pe_callD D_reduced (hr.mono (by decide)) (pa_cons (pe_callB (cr_sum rfl) rfl T.b_sum (by decide +kernel) (pa_cons (pe_callD D_sums_of (hr.mono (by decide)) (pa_cons (pv 0) pa_nil)) pa_nil)) (pa_cons (pe_cst T.c_SIXTY_bearing) pa_nil))))))

abbrev s_check_baskets : Stmt := top 81
abbrev N_check_baskets : List Str := [("grove" : Str), ("number" : Str)]
theorem sc_check_baskets : FnScope N_check_baskets [("grove" : Str), ("number" : Str)] (defScope s_check_baskets) := ⟨rfl, rfl, rfl, by decide +kernel, rfl, by decide +kernel, by decide +kernel⟩
def t_check_baskets (K : PySem.W.Frag) (sp_check_grove : Sp) (sp_is_between : Sp) : TS :=
  (tSeq (tDrop (tCall sp_check_grove [] E0 (tCons (tVar 0) tNil))) (tIfS (tNot (tB (tCall sp_is_between [] E0 (tCons (tVar 1) (tCons (tC (.int 0)) (tCons (tC (.int 9999)) tNil)))))) (tNever) tNext))
theorem ok_check_baskets {P : Program} {w : World} {K : PySem.W.Frag} {mg : Str → Option Value} {base : Heap} {sp : Sp} {sp_check_grove : Sp} {sp_is_between : Sp} (T : Tx K mg) (D_check_grove : Df P w K mg base ("check_grove" : Str) 1 [("grove" : Str)] sp_check_grove) (D_is_between : Df P w K mg base ("is_between" : Str) 2 [("value" : Str), ("least" : Str), ("most" : Str)] sp_is_between)
    (len : ∀ vs H Q E, sp vs H Q E → vs.length = 2) (hp : ∀ vs H Q E, sp vs H Q E → t_check_baskets K sp_check_grove sp_is_between { nx := fun _ H' => Q .non H', rt := Q } (L2.start N_check_baskets vs) H)
    {f : Addr} {fd : FuncData} (F : Fun K ("check_baskets" : Str) ("check_baskets" : Str) s_check_baskets f fd) : FnOk P w K mg base CX0 3 f fd [("grove" : Str), ("number" : Str)] sp := by
  have nd := sc_check_baskets.nd
  refine F.ok sc_check_baskets len (fun cdv A outer s H vs Q E hr h => ⟨t_check_baskets K sp_check_grove sp_is_between, ?_, hp vs H Q E h⟩)
  exact (pss_cons (ps_expr (pe_callD D_check_grove (hr.mono (by decide)) (pa_cons (pv 0) pa_nil))) (pss_one (ps_if (pt_not (pt_val (pe_callD D_is_between (hr.mono (by decide)) (pa_cons (pv 1) (pa_cons (pe_int) (pa_cons (pe_cst T.c_MOST_BASKETS) pa_nil)))))) (pss_one (ps_never)) pss_nil)))

abbrev s_how_many_with : Stmt := top 82
abbrev N_how_many_with : List Str := [("grove" : Str), ("number" : Str), ("one" : Str)]
theorem sc_how_many_with : FnScope N_how_many_with [("grove" : Str), ("number" : Str)] (defScope s_how_many_with) := ⟨rfl, rfl, rfl, by decide +kernel, rfl, by decide +kernel, by decide +kernel⟩
def t_how_many_with (K : PySem.W.Frag) (sp_check_baskets : Sp) (sp_sums_of : Sp) : TS :=
  (tSeq (tDrop (tCall sp_check_baskets [] E0 (tCons (tVar 0) (tCons (tVar 1) tNil)))) (tRet (tCB (uLen K) (tCons (tLc (iAny K (tCall sp_sums_of [] E0 (tCons (tVar 0) tNil))) (gName 2) (tTest (tOp (uGe) (tVar 2) (tVar 1))) (tVar 2) [2]) tNil))))
theorem ok_how_many_with {P : Program} {w : World} {K : PySem.W.Frag} {mg : Str → Option Value} {base : Heap} {sp : Sp} {sp_check_baskets : Sp} {sp_sums_of : Sp} (T : Tx K mg) (D_check_baskets : Df P w K mg base ("check_baskets" : Str) 3 [("grove" : Str), ("number" : Str)] sp_check_baskets) (D_sums_of : Df P w K mg base ("sums_of" : Str) 4 [("grove" : Str)] sp_sums_of)
    (len : ∀ vs H Q E, sp vs H Q E → vs.length = 2) (hp : ∀ vs H Q E, sp vs H Q E → t_how_many_with K sp_check_baskets sp_sums_of { nx := fun _ H' => Q .non H', rt := Q } (L2.start N_how_many_with vs) H)
    {f : Addr} {fd : FuncData} (F : Fun K ("how_many_with" : Str) ("how_many_with" : Str) s_how_many_with f fd) : FnOk P w K mg base CX0 5 f fd [("grove" : Str), ("number" : Str)] sp := by
  have nd := sc_how_many_with.nd
  refine F.ok sc_how_many_with len (fun cdv A outer s H vs Q E hr h => ⟨t_how_many_with K sp_check_baskets sp_sums_of, ?_, hp vs H Q E h⟩)
  exact (pss_cons (ps_expr (pe_callD D_check_baskets (hr.mono (by decide)) (pa_cons (pv 0) (pa_cons (pv 1) pa_nil)))) (pss_one (ps_ret (pe_callB cr_uLen rfl T.b_len (by decide +kernel) (pa_cons (pe_lc (own := [(("one" : Str), 2)]) (g := (gName 2)) (tt := (tTest (tOp (uGe) (tVar 2) (tVar 1)))) rfl nd (pi_any (pe_callD D_sums_of (hr.mono (by decide)) (pa_cons (pv 0) pa_nil))) (blkOk_by (N := N_how_many_with) (sc := defScope s_how_many_with) (by decide +kernel)) (fun _ _ _ _ _ => (pg_name (i := 2) nd rfl (Or.inl rfl))) (fun _ _ _ _ _ => (pts_one (pt_cmpR op_uGe (pv 2) (pv 1) (nomark _)))) (fun _ _ _ _ _ => (pv 2))) pa_nil)))))

abbrev s_lengths_of : Stmt := top 86
abbrev N_lengths_of : List Str := [("grove" : Str), ("name" : Str)]
theorem sc_lengths_of : FnScope N_lengths_of [("grove" : Str)] (defScope s_lengths_of) := ⟨rfl, rfl, rfl, by decide +kernel, rfl, by decide +kernel, by decide +kernel⟩
def t_lengths_of (K : PySem.W.Frag) (C_Grove : Addr) (sp_Grove_palm_names : Sp) (sp_Grove_years_of : Sp) : TS :=
  (tRet (tLc (iAny K (tMeth C_Grove ("palm_names" : Str) sp_Grove_palm_names [] E0 (tVar 0) tNil)) (gName 1) tYes (tCB (uLen K) (tCons (tMeth C_Grove ("years_of" : Str) sp_Grove_years_of [] E0 (tVar 0) (tCons (tVar 1) tNil)) tNil)) [1]))
theorem ok_lengths_of {P : Program} {w : World} {K : PySem.W.Frag} {mg : Str → Option Value} {base : Heap} {sp : Sp} {C_Grove : Addr} {sp_Grove_palm_names : Sp} {sp_Grove_years_of : Sp} (T : Tx K mg) (D_Grove_palm_names : Dmt P w K mg base C_Grove ("palm_names" : Str) 1 [("self" : Str)] sp_Grove_palm_names) (D_Grove_years_of : Dmt P w K mg base C_Grove ("years_of" : Str) 1 [("self" : Str), ("name" : Str)] sp_Grove_years_of)
    (len : ∀ vs H Q E, sp vs H Q E → vs.length = 1) (hp : ∀ vs H Q E, sp vs H Q E → t_lengths_of K C_Grove sp_Grove_palm_names sp_Grove_years_of { nx := fun _ H' => Q .non H', rt := Q } (L2.start N_lengths_of vs) H)
    {f : Addr} {fd : FuncData} (F : Fun K ("lengths_of" : Str) ("lengths_of" : Str) s_lengths_of f fd) : FnOk P w K mg base CX0 2 f fd [("grove" : Str)] sp := by
  have nd := sc_lengths_of.nd
  refine F.ok sc_lengths_of len (fun cdv A outer s H vs Q E hr h => ⟨t_lengths_of K C_Grove sp_Grove_palm_names sp_Grove_years_of, ?_, hp vs H Q E h⟩)
  exact (pss_one (ps_ret (pe_lc (own := [(("name" : Str), 1)]) (g := (gName 1)) (tt := tYes) rfl nd (pi_any (pe_meth0D D_Grove_palm_names (hr.mono (by decide)) (pv 0))) (blkOk_by (N := N_lengths_of) (sc := defScope s_lengths_of) (by decide +kernel)) (fun _ _ _ _ _ => (pg_name (i := 1) nd rfl (Or.inl rfl))) (fun _ _ _ _ _ => pts_nil) (fun _ _ _ _ _ => (pe_callB cr_uLen rfl T.b_len (by decide +kernel) (pa_cons (pe_methD D_Grove_years_of (hr.mono (by decide)) (pv 0) (pa_cons (pv 1) pa_nil)) pa_nil))))))

abbrev s_are_shifts : Stmt := top 87
abbrev N_are_shifts : List Str := [("grove" : Str), ("value" : Str), ("shift" : Str), ("long" : Str)]
theorem sc_are_shifts : FnScope N_are_shifts [("grove" : Str), ("value" : Str)] (defScope s_are_shifts) := ⟨rfl, rfl, rfl, by decide +kernel, rfl, by decide +kernel, by decide +kernel⟩
def t_are_shifts (K : PySem.W.Frag) (C_Grove : Addr) (sp_Grove_palms : Sp) (sp_lengths_of : Sp) (sp_is_between : Sp) : TS :=
  (tSeq (tIfS ((tOr (tNot (tB (tCB (rIsi K) (tCons (tVar 1) (tCons (tC (.ty "tuple")) tNil))))) (tTest (tOp (uNe K) (tCB (uLen K) (tCons (tVar 1) tNil)) (tCB (uLen K) (tCons (tProp C_Grove sp_Grove_palms [] E0 (tVar 0)) tNil)))))) (tRet (tC (.bl false))) tNext) (tRet (tCB (rAll K) (tCons (tLc (iZp K (tCons (tVar 1) (tCons (tCall sp_lengths_of [] E0 (tCons (tVar 0) tNil)) tNil))) (gU K 2 (gCons (gName 2) (gCons (gName 3) gNil))) tYes (tCall sp_is_between [] E0 (tCons (tVar 2) (tCons (tC (.int 0)) (tCons (tOp (uSub) (tVar 3) (tC (.int 1))) tNil)))) [2, 3]) tNil))))
theorem ok_are_shifts {P : Program} {w : World} {K : PySem.W.Frag} {mg : Str → Option Value} {base : Heap} {sp : Sp} {C_Grove : Addr} {sp_Grove_palms : Sp} {sp_lengths_of : Sp} {sp_is_between : Sp} (T : Tx K mg) (D_Grove_palms : Dpr P w K mg base C_Grove ("palms" : Str) 1 [("self" : Str)] sp_Grove_palms) (D_lengths_of : Df P w K mg base ("lengths_of" : Str) 2 [("grove" : Str)] sp_lengths_of) (D_is_between : Df P w K mg base ("is_between" : Str) 2 [("value" : Str), ("least" : Str), ("most" : Str)] sp_is_between)
    (len : ∀ vs H Q E, sp vs H Q E → vs.length = 2) (hp : ∀ vs H Q E, sp vs H Q E → t_are_shifts K C_Grove sp_Grove_palms sp_lengths_of sp_is_between { nx := fun _ H' => Q .non H', rt := Q } (L2.start N_are_shifts vs) H)
    {f : Addr} {fd : FuncData} (F : Fun K ("are_shifts" : Str) ("are_shifts" : Str) s_are_shifts f fd) : FnOk P w K mg base CX0 3 f fd [("grove" : Str), ("value" : Str)] sp := by
  have nd := sc_are_shifts.nd
  refine F.ok sc_are_shifts len (fun cdv A outer s H vs Q E hr h => ⟨t_are_shifts K C_Grove sp_Grove_palms sp_lengths_of sp_is_between, ?_, hp vs H Q E h⟩)
  exact (pss_cons (ps_if (PW.pt (pw_or (pt_not (pt_val (pe_callB call_isi rfl T.b_isinstance (by decide +kernel) (pa_cons (pv 1) (pa_cons (pe_bltn rfl T.b_tuple (by decide +kernel) rfl) pa_nil))))) (pw_or1 (pt_cmpR (op_uNe hr.units) (pe_callB cr_uLen rfl T.b_len (by decide +kernel) (pa_cons (pv 1) pa_nil)) (pe_callB cr_uLen rfl T.b_len (by decide +kernel) (pa_cons (pe_propD D_Grove_palms (hr.mono (by decide)) (pv 0)) pa_nil)) (nomark _))))) (pss_one (ps_ret (pe_bl))) pss_nil) (pss_one (ps_ret (pe_callB (cr_all rfl) rfl T.b_all (by decide +kernel) (pa_cons (pe_lc (own := [(("shift" : Str), 2), (("long" : Str), 3)]) (g := (gU K 2 (gCons (gName 2) (gCons (gName 3) gNil)))) (tt := tYes) rfl nd (pi_zp rfl T.b_zip (pa_cons (pv 1) (pa_cons (pe_callD D_lengths_of (hr.mono (by decide)) (pa_cons (pv 0) pa_nil)) pa_nil))) (blkOk_by (N := N_are_shifts) (sc := defScope s_are_shifts) (by decide +kernel)) (fun _ _ _ _ _ => (pg_gU rfl (pgs_cons (pg_name (i := 2) nd rfl (Or.inl rfl)) (pgs_cons (pg_name (i := 3) nd rfl (Or.inl rfl)) pgs_nil)))) (fun _ _ _ _ _ => pts_nil) (fun _ _ _ _ _ => (pe_callD D_is_between (hr.mono (by decide)) (pa_cons (pv 2) (pa_cons (pe_int) (pa_cons (pe_op op_uSub (pv 3) (pe_int)) pa_nil)))))) pa_nil)))))

abbrev s_shifted_by : Stmt := top 88
abbrev N_shifted_by : List Str := [("grove" : Str), ("shifts" : Str), ("palms" : Str), ("name" : Str), ("every" : Str), ("one" : Str), ("other" : Str), ("years" : Str), ("dates" : Str), ("shift" : Str)]
theorem sc_shifted_by : FnScope N_shifted_by [("grove" : Str), ("shifts" : Str)] (defScope s_shifted_by) := ⟨rfl, rfl, rfl, by decide +kernel, rfl, by decide +kernel, by decide +kernel⟩
def t_shifted_by (K : PySem.W.Frag) (C_Grove : Addr) (sp_Grove_palms : Sp) (sp_grove_of : Sp) (sp_Grove_males : Sp) (sp_Grove_hands : Sp) (sp_Grove_turns : Sp) : TS :=
  (tSeq (tAsg (tLst tNil) (gName 2)) (tSeq (tFor (iZp K (tCons (tProp C_Grove sp_Grove_palms [] E0 (tVar 0)) (tCons (tVar 1) tNil))) (gU K 2 (gCons (gU K 6 (gCons (gName 3) (gCons (gName 4) (gCons (gName 5) (gCons (gName 6) (gCons (gName 7) (gCons (gName 8) gNil))))))) (gCons (gName 9) gNil))) (tDrop (tBM K "list" (rAppend) (tVar 2) (tCons (tTup (tCons (tVar 3) (tCons (tVar 4) (tCons (tVar 5) (tCons (tVar 6) (tCons (tOp (uAdd K) (tSl (uSl K) (tVar 7) (tPart (tVar 9)) tNoPart) (tSl (uSl K) (tVar 7) tNoPart (tPart (tVar 9)))) (tCons (tVar 8) tNil))))))) tNil)))) (tRet (tCall sp_grove_of [] E0 (tCons (tProp C_Grove sp_Grove_turns [] E0 (tVar 0)) (tCons (tProp C_Grove sp_Grove_hands [] E0 (tVar 0)) (tCons (tVar 2) (tCons (tProp C_Grove sp_Grove_males [] E0 (tVar 0)) tNil))))))))
theorem ok_shifted_by {P : Program} {w : World} {K : PySem.W.Frag} {mg : Str → Option Value} {base : Heap} {sp : Sp} {C_Grove : Addr} {sp_Grove_palms : Sp} {sp_grove_of : Sp} {sp_Grove_males : Sp} {sp_Grove_hands : Sp} {sp_Grove_turns : Sp} (T : Tx K mg) (D_Grove_palms : Dpr P w K mg base C_Grove ("palms" : Str) 1 [("self" : Str)] sp_Grove_palms) (D_grove_of : Df P w K mg base ("grove_of" : Str) 8 [("turns" : Str), ("hands" : Str), ("palms" : Str), ("males" : Str)] sp_grove_of) (D_Grove_males : Dpr P w K mg base C_Grove ("males" : Str) 1 [("self" : Str)] sp_Grove_males) (D_Grove_hands : Dpr P w K mg base C_Grove ("hands" : Str) 1 [("self" : Str)] sp_Grove_hands) (D_Grove_turns : Dpr P w K mg base C_Grove ("turns" : Str) 1 [("self" : Str)] sp_Grove_turns)
    (len : ∀ vs H Q E, sp vs H Q E → vs.length = 2) (hp : ∀ vs H Q E, sp vs H Q E → t_shifted_by K C_Grove sp_Grove_palms sp_grove_of sp_Grove_males sp_Grove_hands sp_Grove_turns { nx := fun _ H' => Q .non H', rt := Q } (L2.start N_shifted_by vs) H)
    {f : Addr} {fd : FuncData} (F : Fun K ("shifted_by" : Str) ("shifted_by" : Str) s_shifted_by f fd) : FnOk P w K mg base CX0 9 f fd [("grove" : Str), ("shifts" : Str)] sp := by
  have nd := sc_shifted_by.nd
  refine F.ok sc_shifted_by len (fun cdv A outer s H vs Q E hr h => ⟨t_shifted_by K C_Grove sp_Grove_palms sp_grove_of sp_Grove_males sp_Grove_hands sp_Grove_turns, ?_, hp vs H Q E h⟩)
  exact (pss_cons (ps_set (i := 2) nd rfl (Or.inl rfl) (pe_lst pa_nil)) (pss_cons (ps_for PassesOwn.never rfl (pi_zp rfl T.b_zip (pa_cons (pe_propD D_Grove_palms (hr.mono (by decide)) (pv 0)) (pa_cons (pv 1) pa_nil))) (pg_gU rfl (pgs_cons (pg_gU rfl (pgs_cons (pg_name (i := 3) nd rfl (Or.inl rfl)) (pgs_cons (pg_name (i := 4) nd rfl (Or.inl rfl)) (pgs_cons (pg_name (i := 5) nd rfl (Or.inl rfl)) (pgs_cons (pg_name (i := 6) nd rfl (Or.inl rfl)) (pgs_cons (pg_name (i := 7) nd rfl (Or.inl rfl)) (pgs_cons (pg_name (i := 8) nd rfl (Or.inl rfl)) pgs_nil))))))) (pgs_cons (pg_name (i := 9) nd rfl (Or.inl rfl)) pgs_nil))) (pss_one (ps_expr (pe_bm PySem.F.plainAttrs_list PySem.F.slot_list_append PySem.F.type_list_append mt_append (pv 2) (pa_cons (pe_tup (pa_cons (pv 3) (pa_cons (pv 4) (pa_cons (pv 5) (pa_cons (pv 6) (pa_cons (pe_op op_uAdd (pe_slice sl_u (pv 7) (po_some (pv 9)) po_none) (pe_slice sl_u (pv 7) po_none (po_some (pv 9)))) (pa_cons (pv 8) pa_nil))))))) pa_nil))))) (pss_one (ps_ret (pe_callD D_grove_of (hr.mono (by decide)) (pa_cons (pe_propD D_Grove_turns (hr.mono (by decide)) (pv 0)) (pa_cons (pe_propD D_Grove_hands (hr.mono (by decide)) (pv 0)) (pa_cons (pv 2) (pa_cons (pe_propD D_Grove_males (hr.mono (by decide)) (pv 0)) pa_nil)))))))))

abbrev s_shifted : Stmt := top 89
abbrev N_shifted : List Str := [("grove" : Str), ("shifts" : Str)]
theorem sc_shifted : FnScope N_shifted [("grove" : Str), ("shifts" : Str)] (defScope s_shifted) := ⟨rfl, rfl, rfl, by decide +kernel, rfl, by decide +kernel, by decide +kernel⟩
def t_shifted (K : PySem.W.Frag) (sp_check_grove : Sp) (sp_are_shifts : Sp) (sp_shifted_by : Sp) : TS :=
  (tSeq (tDrop (tCall sp_check_grove [] E0 (tCons (tVar 0) tNil))) (tSeq (tIfS (tNot (tB (tCall sp_are_shifts [] E0 (tCons (tVar 0) (tCons (tVar 1) tNil))))) (tNever) tNext) (tRet (tCall sp_shifted_by [] E0 (tCons (tVar 0) (tCons (tVar 1) tNil))))))
theorem ok_shifted {P : Program} {w : World} {K : PySem.W.Frag} {mg : Str → Option Value} {base : Heap} {sp : Sp} {sp_check_grove : Sp} {sp_are_shifts : Sp} {sp_shifted_by : Sp} (T : Tx K mg) (D_check_grove : Df P w K mg base ("check_grove" : Str) 1 [("grove" : Str)] sp_check_grove) (D_are_shifts : Df P w K mg base ("are_shifts" : Str) 3 [("grove" : Str), ("value" : Str)] sp_are_shifts) (D_shifted_by : Df P w K mg base ("shifted_by" : Str) 9 [("grove" : Str), ("shifts" : Str)] sp_shifted_by)
    (len : ∀ vs H Q E, sp vs H Q E → vs.length = 2) (hp : ∀ vs H Q E, sp vs H Q E → t_shifted K sp_check_grove sp_are_shifts sp_shifted_by { nx := fun _ H' => Q .non H', rt := Q } (L2.start N_shifted vs) H)
    {f : Addr} {fd : FuncData} (F : Fun K ("shifted" : Str) ("shifted" : Str) s_shifted f fd) : FnOk P w K mg base CX0 10 f fd [("grove" : Str), ("shifts" : Str)] sp := by
  have nd := sc_shifted.nd
  refine F.ok sc_shifted len (fun cdv A outer s H vs Q E hr h => ⟨t_shifted K sp_check_grove sp_are_shifts sp_shifted_by, ?_, hp vs H Q E h⟩)
  exact (pss_cons (ps_expr (pe_callD D_check_grove (hr.mono (by decide)) (pa_cons (pv 0) pa_nil))) (pss_cons (ps_if (pt_not (pt_val (pe_callD D_are_shifts (hr.mono (by decide)) (pa_cons (pv 0) (pa_cons (pv 1) pa_nil))))) (pss_one (ps_never)) pss_nil) (pss_one (ps_ret (pe_callD D_shifted_by (hr.mono (by decide)) (pa_cons (pv 0) (pa_cons (pv 1) pa_nil)))))))

abbrev s_shift_count : Stmt := top 90
abbrev N_shift_count : List Str := [("grove" : Str), ("found" : Str), ("long" : Str)]
theorem sc_shift_count : FnScope N_shift_count [("grove" : Str)] (defScope s_shift_count) := ⟨rfl, rfl, rfl, by decide +kernel, rfl, by decide +kernel, by decide +kernel⟩
def t_shift_count (K : PySem.W.Frag) (sp_lengths_of : Sp) : TS :=
  (tSeq (tAsg (tC (.int 1)) (gName 1)) (tSeq (tFor (iAny K (tCall sp_lengths_of [] E0 (tCons (tVar 0) tNil))) (gName 2) (tAsg (tOp (uMul K) (tVar 1) (tVar 2)) (gName 1))) (tRet (tVar 1))))
theorem ok_shift_count {P : Program} {w : World} {K : PySem.W.Frag} {mg : Str → Option Value} {base : Heap} {sp : Sp} {sp_lengths_of : Sp} (T : Tx K mg) (D_lengths_of : Df P w K mg base ("lengths_of" : Str) 2 [("grove" : Str)] sp_lengths_of)
    (len : ∀ vs H Q E, sp vs H Q E → vs.length = 1) (hp : ∀ vs H Q E, sp vs H Q E → t_shift_count K sp_lengths_of { nx := fun _ H' => Q .non H', rt := Q } (L2.start N_shift_count vs) H)
    {f : Addr} {fd : FuncData} (F : Fun K ("shift_count" : Str) ("shift_count" : Str) s_shift_count f fd) : FnOk P w K mg base CX0 3 f fd [("grove" : Str)] sp := by
  have nd := sc_shift_count.nd
  refine F.ok sc_shift_count len (fun cdv A outer s H vs Q E hr h => ⟨t_shift_count K sp_lengths_of, ?_, hp vs H Q E h⟩)
  exact (pss_cons (ps_set (i := 1) nd rfl (Or.inl rfl) (pe_int)) (pss_cons (ps_for PassesOwn.never rfl (pi_any (pe_callD D_lengths_of (hr.mono (by decide)) (pa_cons (pv 0) pa_nil))) (pg_name (i := 2) nd rfl (Or.inl rfl)) (pss_one (ps_set (i := 1) nd rfl (Or.inl rfl) (pe_op op_uMul (pv 1) (pv 2))))) (pss_one (ps_ret (pv 1)))))

abbrev s_check_shifts_few : Stmt := top 91
abbrev N_check_shifts_few : List Str := [("grove" : Str)]
theorem sc_check_shifts_few : FnScope N_check_shifts_few [("grove" : Str)] (defScope s_check_shifts_few) := ⟨rfl, rfl, rfl, by decide +kernel, rfl, by decide +kernel, by decide +kernel⟩
def t_check_shifts_few (K : PySem.W.Frag) (sp_check_grove : Sp) (sp_shift_count : Sp) : TS :=
  (tSeq (tDrop (tCall sp_check_grove [] E0 (tCons (tVar 0) tNil))) (tIfS (tTest (tOp (uGt) (tCall sp_shift_count [] E0 (tCons (tVar 0) tNil)) (tC (.int 1000)))) (tNever) tNext))
theorem ok_check_shifts_few {P : Program} {w : World} {K : PySem.W.Frag} {mg : Str → Option Value} {base : Heap} {sp : Sp} {sp_check_grove : Sp} {sp_shift_count : Sp} (T : Tx K mg) (D_check_grove : Df P w K mg base ("check_grove" : Str) 1 [("grove" : Str)] sp_check_grove) (D_shift_count : Df P w K mg base ("shift_count" : Str) 3 [("grove" : Str)] sp_shift_count)
    (len : ∀ vs H Q E, sp vs H Q E → vs.length = 1) (hp : ∀ vs H Q E, sp vs H Q E → t_check_shifts_few K sp_check_grove sp_shift_count { nx := fun _ H' => Q .non H', rt := Q } (L2.start N_check_shifts_few vs) H)
    {f : Addr} {fd : FuncData} (F : Fun K ("check_shifts_few" : Str) ("check_shifts_few" : Str) s_check_shifts_few f fd) : FnOk P w K mg base CX0 4 f fd [("grove" : Str)] sp := by
  have nd := sc_check_shifts_few.nd
  refine F.ok sc_check_shifts_few len (fun cdv A outer s H vs Q E hr h => ⟨t_check_shifts_few K sp_check_grove sp_shift_count, ?_, hp vs H Q E h⟩)
  exact (pss_cons (ps_expr (pe_callD D_check_grove (hr.mono (by decide)) (pa_cons (pv 0) pa_nil))) (pss_one (ps_if (pt_cmpR op_uGt (pe_callD D_shift_count (hr.mono (by decide)) (pa_cons (pv 0) pa_nil)) (pe_cst T.c_MOST_SHIFTS) (nomark _)) (pss_one (ps_never)) pss_nil)))

abbrev s_all_shifts : Stmt := top 92
abbrev N_all_shifts : List Str := [("grove" : Str), ("rows" : Str), ("long" : Str), ("longer" : Str), ("row" : Str), ("shift" : Str)]
theorem sc_all_shifts : FnScope N_all_shifts [("grove" : Str)] (defScope s_all_shifts) := ⟨rfl, rfl, rfl, by decide +kernel, rfl, by decide +kernel, by decide +kernel⟩
def t_all_shifts (K : PySem.W.Frag) (sp_lengths_of : Sp) : TS :=
  (tSeq (tAsg (tLst (tCons (tTup tNil) tNil)) (gName 1)) (tSeq (tFor (iAny K (tCall sp_lengths_of [] E0 (tCons (tVar 0) tNil))) (gName 2) (tSeq (tAsg (tLst tNil) (gName 3)) (tSeq (tFor (iAny K (tVar 1)) (gName 4) (tDrop (tBM K "list" (rExtend) (tVar 3) (tCons (tLc (iRng1 (tCons (tVar 2) tNil)) (gName 5) tYes (tTup (tStar K (tVar 4) (tCons (tVar 5) tNil))) [5]) tNil)))) (tAsg (tVar 3) (gName 1))))) (tRet (tVar 1))))
theorem ok_all_shifts {P : Program} {w : World} {K : PySem.W.Frag} {mg : Str → Option Value} {base : Heap} {sp : Sp} {sp_lengths_of : Sp} (T : Tx K mg) (D_lengths_of : Df P w K mg base ("lengths_of" : Str) 2 [("grove" : Str)] sp_lengths_of)
    (len : ∀ vs H Q E, sp vs H Q E → vs.length = 1) (hp : ∀ vs H Q E, sp vs H Q E → t_all_shifts K sp_lengths_of { nx := fun _ H' => Q .non H', rt := Q } (L2.start N_all_shifts vs) H)
    {f : Addr} {fd : FuncData} (F : Fun K ("all_shifts" : Str) ("all_shifts" : Str) s_all_shifts f fd) : FnOk P w K mg base CX0 3 f fd [("grove" : Str)] sp := by
  have nd := sc_all_shifts.nd
  refine F.ok sc_all_shifts len (fun cdv A outer s H vs Q E hr h => ⟨t_all_shifts K sp_lengths_of, ?_, hp vs H Q E h⟩)
  exact (pss_cons (ps_set (i := 1) nd rfl (Or.inl rfl) (pe_lst (pa_cons (pe_tup pa_nil) pa_nil))) (pss_cons (ps_for PassesOwn.never rfl (pi_any (pe_callD D_lengths_of (hr.mono (by decide)) (pa_cons (pv 0) pa_nil))) (pg_name (i := 2) nd rfl (Or.inl rfl)) (pss_cons (ps_set (i := 3) nd rfl (Or.inl rfl) (pe_lst pa_nil)) (pss_cons (ps_for PassesOwn.never rfl (pi_any (pv 1)) (pg_name (i := 4) nd rfl (Or.inr rfl)) (pss_one (ps_expr (pe_bm PySem.F.plainAttrs_list PySem.F.slot_list_extend PySem.F.type_list_extend mt_extend (pv 3) (pa_cons (pe_lc (own := [(("shift" : Str), 5)]) (g := (gName 5)) (tt := tYes) rfl nd (pi_range1 rfl T.b_range (pa_cons (pv 2) pa_nil)) (blkOk_by (N := N_all_shifts) (sc := defScope s_all_shifts) (by decide +kernel)) (fun _ _ _ _ _ => (pg_name (i := 5) nd rfl (Or.inl rfl))) (fun _ _ _ _ _ => pts_nil) (fun _ _ _ _ _ => (pe_tup (pa_star (pv 4) (pa_cons (pv 5) pa_nil))))) pa_nil))))) (pss_one (ps_set (i := 1) nd rfl (Or.inl rfl) (pv 3)))))) (pss_one (ps_ret (pv 1)))))

abbrev s_rows_shifted : Stmt := top 93
abbrev N_rows_shifted : List Str := [("grove" : Str), ("found" : Str), ("name" : Str), ("long" : Str), ("years" : Str), ("dates" : Str), ("rows" : Str), ("shift" : Str), ("year" : Str)]
theorem sc_rows_shifted : FnScope N_rows_shifted [("grove" : Str)] (defScope s_rows_shifted) := ⟨rfl, rfl, rfl, by decide +kernel, rfl, by decide +kernel, by decide +kernel⟩
def t_rows_shifted (K : PySem.W.Frag) (C_Grove : Addr) (sp_lengths_of : Sp) (sp_Grove_palm_names : Sp) (sp_Grove_dates_of : Sp) (sp_Grove_years_of : Sp) : TS :=
  (tSeq (tAsg (tLst tNil) (gName 1)) (tSeq (tFor (iZp K (tCons (tMeth C_Grove ("palm_names" : Str) sp_Grove_palm_names [] E0 (tVar 0) tNil) (tCons (tCall sp_lengths_of [] E0 (tCons (tVar 0) tNil)) tNil))) (gU K 2 (gCons (gName 2) (gCons (gName 3) gNil))) (tSeq (tAsg (tTup (tCons (tMeth C_Grove ("years_of" : Str) sp_Grove_years_of [] E0 (tVar 0) (tCons (tVar 2) tNil)) (tCons (tMeth C_Grove ("dates_of" : Str) sp_Grove_dates_of [] E0 (tVar 0) (tCons (tVar 2) tNil)) tNil))) (gU K 2 (gCons (gName 4) (gCons (gName 5) gNil)))) (tSeq (tAsg (tLst tNil) (gName 6)) (tSeq (tFor (iRng1 (tCons (tVar 3) tNil)) (gName 7) (tDrop (tBM K "list" (rAppend) (tVar 6) (tCons (tLc (iRng1 (tCons (tC (.int 60)) tNil)) (gName 8) tYes (tOp (uMul K) (tVar 5) (tCB (uInt) (tCons (tOp (uEq K) (tOp (uIx K) (tVar 4) (tOp (uMod) (tOp (uAdd K) (tVar 8) (tVar 7)) (tVar 3))) (tC (.str ("1" : Str)))) tNil))) [8]) tNil)))) (tDrop (tBM K "list" (rAppend) (tVar 1) (tCons (tVar 6) tNil))))))) (tRet (tVar 1))))
theorem ok_rows_shifted {P : Program} {w : World} {K : PySem.W.Frag} {mg : Str → Option Value} {base : Heap} {sp : Sp} {C_Grove : Addr} {sp_lengths_of : Sp} {sp_Grove_palm_names : Sp} {sp_Grove_dates_of : Sp} {sp_Grove_years_of : Sp} (T : Tx K mg) (D_lengths_of : Df P w K mg base ("lengths_of" : Str) 2 [("grove" : Str)] sp_lengths_of) (D_Grove_palm_names : Dmt P w K mg base C_Grove ("palm_names" : Str) 1 [("self" : Str)] sp_Grove_palm_names) (D_Grove_dates_of : Dmt P w K mg base C_Grove ("dates_of" : Str) 1 [("self" : Str), ("name" : Str)] sp_Grove_dates_of) (D_Grove_years_of : Dmt P w K mg base C_Grove ("years_of" : Str) 1 [("self" : Str), ("name" : Str)] sp_Grove_years_of)
    (len : ∀ vs H Q E, sp vs H Q E → vs.length = 1) (hp : ∀ vs H Q E, sp vs H Q E → t_rows_shifted K C_Grove sp_lengths_of sp_Grove_palm_names sp_Grove_dates_of sp_Grove_years_of { nx := fun _ H' => Q .non H', rt := Q } (L2.start N_rows_shifted vs) H)
    {f : Addr} {fd : FuncData} (F : Fun K ("rows_shifted" : Str) ("rows_shifted" : Str) s_rows_shifted f fd) : FnOk P w K mg base CX0 3 f fd [("grove" : Str)] sp := by
  have nd := sc_rows_shifted.nd
  refine F.ok sc_rows_shifted len (fun cdv A outer s H vs Q E hr h => ⟨t_rows_shifted K C_Grove sp_lengths_of sp_Grove_palm_names sp_Grove_dates_of sp_Grove_years_of, ?_, hp vs H Q E h⟩)
  exact (pss_cons (ps_set (i := 1) nd rfl (Or.inl rfl) (pe_lst pa_nil)) (pss_cons (ps_for PassesOwn.never rfl (pi_zp rfl T.b_zip (pa_cons (pe_meth0D D_Grove_palm_names (hr.mono (by decide)) (pv 0)) (pa_cons (pe_callD D_lengths_of (hr.mono (by decide)) (pa_cons (pv 0) pa_nil)) pa_nil))) (pg_gU rfl (pgs_cons (pg_name (i := 2) nd rfl (Or.inl rfl)) (pgs_cons (pg_name (i := 3) nd rfl (Or.inr rfl)) pgs_nil))) (pss_cons (ps_asg (pe_tup (pa_cons (pe_methD D_Grove_years_of (hr.mono (by decide)) (pv 0) (pa_cons (pv 2) pa_nil)) (pa_cons (pe_methD D_Grove_dates_of (hr.mono (by decide)) (pv 0) (pa_cons (pv 2) pa_nil)) pa_nil))) (pg_gU rfl (pgs_cons (pg_name (i := 4) nd rfl (Or.inr rfl)) (pgs_cons (pg_name (i := 5) nd rfl (Or.inr rfl)) pgs_nil)))) (pss_cons (ps_set (i := 6) nd rfl (Or.inl rfl) (pe_lst pa_nil)) (pss_cons (ps_for PassesOwn.never rfl (pi_range1 rfl T.b_range (pa_cons (pv 3) pa_nil)) (pg_name (i := 7) nd rfl (Or.inr rfl)) (pss_one (ps_expr (pe_bm PySem.F.plainAttrs_list PySem.F.slot_list_append PySem.F.type_list_append mt_append (pv 6) (pa_cons (pe_lc (own := [(("year" : Str), 8)]) (g := (gName 8)) (tt := tYes) rfl nd (pi_range1 rfl T.b_range (pa_cons (pe_cst T.c_SIXTY_evening) pa_nil)) (blkOk_by (N := N_rows_shifted) (sc := defScope s_rows_shifted) (by decide +kernel)) (fun _ _ _ _ _ => (pg_name (i := 8) nd rfl (Or.inl rfl))) (fun _ _ _ _ _ => pts_nil) (fun _ _ _ _ _ => (pe_op op_uMul (pv 5) (pe_callTy cr_uInt rfl T.b_int (by decide +kernel) (pa_cons (pe_cmpR (op_uEq hr.units) (pe_ix (ix_u hr.units) (pv 4) (pe_op op_uMod (pe_op op_uAdd (pv 8) (pv 7)) (pv 3)) (fun _ _ => rfl)) (pe_str) (nomark _)) pa_nil))))) pa_nil))))) (pss_one (ps_expr (pe_bm PySem.F.plainAttrs_list PySem.F.slot_list_append PySem.F.type_list_append mt_append (pv 1) (pa_cons (pv 6) pa_nil)))))))) (pss_one (ps_ret (pv 1)))))

abbrev s_sums_by : Stmt := top 94
abbrev N_sums_by : List Str := [("rows" : Str), ("shifts" : Str), ("some" : Str), ("row" : Str), ("shift" : Str), ("year" : Str)]
theorem sc_sums_by : FnScope N_sums_by [("rows" : Str), ("shifts" : Str)] (defScope s_sums_by) := ⟨rfl, rfl, rfl, by decide +kernel, rfl, by decide +kernel, by decide +kernel⟩
def t_sums_by (K : PySem.W.Frag) : TS :=
  (tSeq (tAsg (tLc (iZp K (tCons (tVar 0) (tCons (tVar 1) tNil))) (gU K 2 (gCons (gName 3) (gCons (gName 4) gNil))) tYes (tOp (uIx K) (tVar 3) (tVar 4)) [3, 4]) (gName 2)) (tRet (tLc (iRng1 (tCons (tC (.int 60)) tNil)) (gName 5) tYes (tCB (rSum K) (tCons (tLc (iAny K (tVar 2)) (gName 3) tYes (tOp (uIx K) (tVar 3) (tVar 5)) [3]) tNil)) [5])))
theorem ok_sums_by {P : Program} {w : World} {K : PySem.W.Frag} {mg : Str → Option Value} {base : Heap} {sp : Sp} (T : Tx K mg)
    (len : ∀ vs H Q E, sp vs H Q E → vs.length = 2) (hp : ∀ vs H Q E, sp vs H Q E → t_sums_by K { nx := fun _ H' => Q .non H', rt := Q } (L2.start N_sums_by vs) H)
    {f : Addr} {fd : FuncData} (F : Fun K ("sums_by" : Str) ("sums_by" : Str) s_sums_by f fd) : FnOk P w K mg base CX0 1 f fd [("rows" : Str), ("shifts" : Str)] sp := by
  have nd := sc_sums_by.nd
  refine F.ok sc_sums_by len (fun cdv A outer s H vs Q E hr h => ⟨t_sums_by K, ?_, hp vs H Q E h⟩)
  exact (pss_cons (ps_set (i := 2) nd rfl (Or.inr rfl) (pe_lc (own := [(("row" : Str), 3), (("shift" : Str), 4)]) (g := (gU K 2 (gCons (gName 3) (gCons (gName 4) gNil)))) (tt := tYes) rfl nd (pi_zp rfl T.b_zip (pa_cons (pv 0) (pa_cons (pv 1) pa_nil))) (blkOk_by (N := N_sums_by) (sc := defScope s_sums_by) (by decide +kernel)) (fun _ _ _ _ _ => (pg_gU rfl (pgs_cons (pg_name (i := 3) nd rfl (Or.inl rfl)) (pgs_cons (pg_name (i := 4) nd rfl (Or.inl rfl)) pgs_nil)))) (fun _ _ _ _ _ => pts_nil) (fun _ _ _ _ _ => (pe_ix (ix_u hr.units) (pv 3) (pv 4) (fun _ _ => rfl))))) (pss_one (ps_ret (pe_lc (own := [(("year" : Str), 5)]) (g := (gName 5)) (tt := tYes) rfl nd (pi_range1 rfl T.b_range (pa_cons (pe_cst T.c_SIXTY_evening) pa_nil)) (blkOk_by (N := N_sums_by) (sc := defScope s_sums_by) (by decide +kernel)) (fun _ _ _ _ _ => (pg_name (i := 5) nd rfl (Or.inr rfl))) (fun _ _ _ _ _ => pts_nil) (fun _ _ _ _ _ => (pe_callB (cr_sum rfl) rfl T.b_sum (by decide +kernel) (pa_cons (pe_lc (own := [(("row" : Str), 3)]) (g := (gName 3)) (tt := tYes) rfl nd (pi_any (pv 2)) (blkOk_by (by rfl)) (fun _ _ _ _ _ => (pg_name (i := 3) nd rfl (Or.inl rfl))) (fun _ _ _ _ _ => pts_nil) (fun _ _ _ _ _ => (pe_ix (ix_u hr.units) (pv 3) (pv 5) (fun _ _ => rfl)))) pa_nil)))))))

abbrev s_told_evenest : Stmt := top 95
abbrev N_told_evenest : List Str := [("grove" : Str), ("rows" : Str), ("best" : Str), ("shifts" : Str), ("number" : Str)]
theorem sc_told_evenest : FnScope N_told_evenest [("grove" : Str)] (defScope s_told_evenest) := ⟨rfl, rfl, rfl, by decide +kernel, rfl, by decide +kernel, by decide +kernel⟩
def t_told_evenest (K : PySem.W.Frag) (sp_rows_shifted : Sp) (sp_all_shifts : Sp) (sp_sums_by : Sp) : TS :=
  (tSeq (tPar 1 2 (tCons (tCall sp_rows_shifted [] E0 (tCons (tVar 0) tNil)) (tCons (tC .non) tNil))) (tSeq (tFor (iAny K (tCall sp_all_shifts [] E0 (tCons (tVar 0) tNil))) (gName 3) (tSeq (tAsg (tCB (uMin K) (tCons (tCall sp_sums_by [] E0 (tCons (tVar 1) (tCons (tVar 3) tNil))) tNil)) (gName 4)) (tAsg (tIf ((tOr (tTest (tOp (uIs) (tVar 2) (tC .non))) (tTest (tOp (uGt) (tVar 4) (tOp (uIx K) (tVar 2) (tC (.int 0))))))) (tTup (tCons (tVar 4) (tCons (tVar 3) tNil))) (tVar 2)) (gName 2)))) (tRet (tVar 2))))
theorem ok_told_evenest {P : Program} {w : World} {K : PySem.W.Frag} {mg : Str → Option Value} {base : Heap} {sp : Sp} {sp_rows_shifted : Sp} {sp_all_shifts : Sp} {sp_sums_by : Sp} (T : Tx K mg) (D_rows_shifted : Df P w K mg base ("rows_shifted" : Str) 3 [("grove" : Str)] sp_rows_shifted) (D_all_shifts : Df P w K mg base ("all_shifts" : Str) 3 [("grove" : Str)] sp_all_shifts) (D_sums_by : Df P w K mg base ("sums_by" : Str) 1 [("rows" : Str), ("shifts" : Str)] sp_sums_by)
    (len : ∀ vs H Q E, sp vs H Q E → vs.length = 1) (hp : ∀ vs H Q E, sp vs H Q E → t_told_evenest K sp_rows_shifted sp_all_shifts sp_sums_by { nx := fun _ H' => Q .non H', rt := Q } (L2.start N_told_evenest vs) H)
    {f : Addr} {fd : FuncData} (F : Fun K ("told_evenest" : Str) ("told_evenest" : Str) s_told_evenest f fd) : FnOk P w K mg base CX0 4 f fd [("grove" : Str)] sp := by
  have nd := sc_told_evenest.nd
  refine F.ok sc_told_evenest len (fun cdv A outer s H vs Q E hr h => ⟨t_told_evenest K sp_rows_shifted sp_all_shifts sp_sums_by, ?_, hp vs H Q E h⟩)
  exact (pss_cons (ps_par (i := 1) (j := 2) rfl nd rfl rfl (by decide) rfl rfl (pa_cons (pe_callD D_rows_shifted (hr.mono (by decide)) (pa_cons (pv 0) pa_nil)) (pa_cons (pe_non) pa_nil)) (by rfl)) (pss_cons (ps_for PassesOwn.never rfl (pi_any (pe_callD D_all_shifts (hr.mono (by decide)) (pa_cons (pv 0) pa_nil))) (pg_name (i := 3) nd rfl (Or.inl rfl)) (pss_cons (ps_set (i := 4) nd rfl (Or.inl rfl) (pe_callB (cr_uMin rfl) rfl T.b_min (by decide +kernel) (pa_cons (pe_callD D_sums_by (hr.mono (by decide)) (pa_cons (pv 1) (pa_cons (pv 3) pa_nil))) pa_nil))) (pss_one (ps_set (i := 2) nd rfl (Or.inl rfl) (pe_ifExp (PW.pt (pw_or (pt_cmpR op_uIs (pv 2) (pe_non) (nomark _)) (pw_or1 (pt_cmpR op_uGt (pv 4) (pe_ix (ix_u hr.units) (pv 2) (pe_int) (fun _ _ => rfl)) (nomark _))))) (pe_tup (pa_cons (pv 4) (pa_cons (pv 3) pa_nil))) (pv 2)))))) (pss_one (ps_ret (pv 2)))))

abbrev s_evenest : Stmt := top 96
abbrev N_evenest : List Str := [("grove" : Str)]
theorem sc_evenest : FnScope N_evenest [("grove" : Str)] (defScope s_evenest) := ⟨rfl, rfl, rfl, by decide +kernel, rfl, by decide +kernel, by decide +kernel⟩
def t_evenest (K : PySem.W.Frag) (sp_check_shifts_few : Sp) (sp_told_evenest : Sp) : TS :=
  (tSeq (tDrop (tCall sp_check_shifts_few [] E0 (tCons (tVar 0) tNil))) (tRet (tCall sp_told_evenest [] E0 (tCons (tVar 0) tNil))))
theorem ok_evenest {P : Program} {w : World} {K : PySem.W.Frag} {mg : Str → Option Value} {base : Heap} {sp : Sp} {sp_check_shifts_few : Sp} {sp_told_evenest : Sp} (T : Tx K mg) (D_check_shifts_few : Df P w K mg base ("check_shifts_few" : Str) 4 [("grove" : Str)] sp_check_shifts_few) (D_told_evenest : Df P w K mg base ("told_evenest" : Str) 4 [("grove" : Str)] sp_told_evenest)
    (len : ∀ vs H Q E, sp vs H Q E → vs.length = 1) (hp : ∀ vs H Q E, sp vs H Q E → t_evenest K sp_check_shifts_few sp_told_evenest { nx := fun _ H' => Q .non H', rt := Q } (L2.start N_evenest vs) H)
    {f : Addr} {fd : FuncData} (F : Fun K ("evenest" : Str) ("evenest" : Str) s_evenest f fd) : FnOk P w K mg base CX0 5 f fd [("grove" : Str)] sp := by
  have nd := sc_evenest.nd
  refine F.ok sc_evenest len (fun cdv A outer s H vs Q E hr h => ⟨t_evenest K sp_check_shifts_few sp_told_evenest, ?_, hp vs H Q E h⟩)
  exact (pss_cons (ps_expr (pe_callD D_check_shifts_few (hr.mono (by decide)) (pa_cons (pv 0) pa_nil))) (pss_one (ps_ret (pe_callD D_told_evenest (hr.mono (by decide)) (pa_cons (pv 0) pa_nil)))))

abbrev s__law_pot : Stmt := top 98
abbrev N__law_pot : List Str := [("script" : Str), ("place" : Str), ("cell" : Str), ("own" : Str), ("small" : Str)]
theorem sc__law_pot : FnScope N__law_pot [("script" : Str), ("place" : Str)] (defScope s__law_pot) := ⟨rfl, rfl, rfl, by decide +kernel, rfl, by decide +kernel, by decide +kernel⟩
def t__law_pot (K : PySem.W.Frag) : TS :=
  (tSeq (tAsg (tIf (tTest (tOp (uLt) (tVar 1) (tCB (uLen K) (tCons (tVar 0) tNil)))) (tOp (uIx K) (tVar 0) (tVar 1)) (tOp (uAdd K) (tOp (uAdd K) (tOp (uMod) (tCB (rSum K) (tCons (tSl (uSl K) (tVar 0) tNoPart (tPart (tC (.int 1)))) tNil)) (tC (.int 1000003))) (tOp (uMul K) (tC (.int 13144)) (tVar 1))) (tC (.int 11194)))) (gName 2)) (tSeq (tAsg (tOp (uMul K) (tOp (uMod) (tCB (uInt) (tCons (tCB (rAbs) (tCons (tVar 2) tNil)) tNil)) (tOp (uPow) (tOp (uPow) (tC (.int 10)) (tC (.int 60))) (tC (.int 5)))) (tCB (uInt) (tCons (tOp (uGe) (tCB (rAbs) (tCons (tVar 2) tNil)) (tOp (uPow) (tC (.int 10)) (tC (.int 18)))) tNil))) (gName 3)) (tSeq (tAsg (tOp (uMod) (tCB (uInt) (tCons (tVar 2) tNil)) (tC (.int 2305843009213693951))) (gName 4)) (tRet (tLst (tCons (tVar 3) (tCons (tOp (uMod) (tCB (uInt) (tCons (tOp (uAdd K) (tOp (uAdd K) (tOp (uMul K) (tVar 4) (tC (.int 97096))) (tOp (uMul K) (tOp (uMul K) (tC (.int 10856)) (tVar 1)) (tVar 1))) (tC (.int 4294))) tNil)) (tC (.int 2305843009213693921))) (tCons (tC (.int 0)) tNil))))))))
theorem ok__law_pot {P : Program} {w : World} {K : PySem.W.Frag} {mg : Str → Option Value} {base : Heap} {sp : Sp} (T : Tx K mg)
    (len : ∀ vs H Q E, sp vs H Q E → vs.length = 2) (hp : ∀ vs H Q E, sp vs H Q E → t__law_pot K { nx := fun _ H' => Q .non H', rt := Q } (L2.start N__law_pot vs) H)
    {f : Addr} {fd : FuncData} (F : Fun K ("_law_pot" : Str) ("_law_pot" : Str) s__law_pot f fd) : FnOk P w K mg base CX0 1 f fd [("script" : Str), ("place" : Str)] sp := by
  have nd := sc__law_pot.nd
  refine F.ok sc__law_pot len (fun cdv A outer s H vs Q E hr h => ⟨t__law_pot K, ?_, hp vs H Q E h⟩)
  exact (pss_cons (ps_set (i := 2) nd rfl (Or.inl rfl) (pe_ifExp (pt_cmpR op_uLt (pv 1) (pe_callB cr_uLen rfl T.b_len (by decide +kernel) (pa_cons (pv 0) pa_nil)) (nomark _)) (pe_ix (ix_u hr.units) (pv 0) (pv 1) (fun _ _ => rfl)) (pe_op op_uAdd (pe_op op_uAdd (pe_op op_uMod (pe_callB (cr_sum rfl) rfl T.b_sum (by decide +kernel) (pa_cons (pe_slice sl_u (pv 0) po_none (po_some (pe_int))) pa_nil)) (pe_int)) (pe_op op_uMul (pe_int) (pv 1))) (pe_int)))) (pss_cons (ps_set (i := 3) nd rfl (Or.inl rfl) (pe_op op_uMul (pe_op op_uMod (pe_callTy cr_uInt rfl T.b_int (by decide +kernel) (pa_cons (pe_callB cr_uAbs rfl T.b_abs (by decide +kernel) (pa_cons (pv 2) pa_nil)) pa_nil)) (pe_op op_uPow (pe_op op_uPow (pe_int) (pe_int)) (pe_int))) (pe_callTy cr_uInt rfl T.b_int (by decide +kernel) (pa_cons (pe_cmpR op_uGe (pe_callB cr_uAbs rfl T.b_abs (by decide +kernel) (pa_cons (pv 2) pa_nil)) (pe_op op_uPow (pe_int) (pe_int)) (nomark _)) pa_nil)))) (pss_cons (ps_set (i := 4) nd rfl (Or.inl rfl) (pe_op op_uMod (pe_callTy cr_uInt rfl T.b_int (by decide +kernel) (pa_cons (pv 2) pa_nil)) (pe_int))) (pss_one (ps_ret (pe_lst (pa_cons (pv 3) (pa_cons (pe_op op_uMod (pe_callTy cr_uInt rfl T.b_int (by decide +kernel) (pa_cons (pe_op op_uAdd (pe_op op_uAdd (pe_op op_uMul (pv 4) (pe_int)) (pe_op op_uMul (pe_op op_uMul (pe_int) (pv 1)) (pv 1))) (pe_int)) pa_nil)) (pe_int)) (pa_cons (pe_int) pa_nil)))))))))

abbrev s__law_take : Stmt := top 99
abbrev N__law_take : List Str := [("pot" : Str), ("upto" : Str), ("digit" : Str), ("prime" : Str), ("blend" : Str)]
theorem sc__law_take : FnScope N__law_take [("pot" : Str), ("upto" : Str)] (defScope s__law_take) := ⟨rfl, rfl, rfl, by decide +kernel, rfl, by decide +kernel, by decide +kernel⟩
def t__law_take (K : PySem.W.Frag) : TS :=
  (tSeq (tIfS (tTest (tOp (uGt) (tOp (uIx K) (tVar 0) (tC (.int 0))) (tC (.int 0)))) (tSeq (tAsg (tOp (uMod) (tCB (uInt) (tCons (tOp (uIx K) (tVar 0) (tC (.int 0))) tNil)) (tVar 1)) (gName 2)) (tSeq (tAsg (tOp (uDiv) (tOp (uIx K) (tVar 0) (tC (.int 0))) (tVar 1)) (gSub (tVar 0) (tC (.int 0)) uSet)) (tRet (tVar 2)))) tNext) (tSeq (tAsg (tOp (uAdd K) (tOp (uIx K) (tVar 0) (tC (.int 2))) (tC (.int 1))) (gSub (tVar 0) (tC (.int 2)) uSet)) (tSeq (tAsg (tOp (uIx K) (tLst (tCons (tC (.int 2147483647)) (tCons (tC (.int 2147483629)) (tCons (tC (.int 2147483587)) (tCons (tC (.int 2147483579)) (tCons (tC (.int 2147483563)) tNil)))))) (tOp (uMod) (tCB (uInt) (tCons (tOp (uIx K) (tVar 0) (tC (.int 2))) tNil)) (tC (.int 5)))) (gName 3)) (tSeq (tAsg (tOp (uMod) (tCB (uInt) (tCons (tOp (uPow) (tCB (uInt) (tCons (tOp (uAdd K) (tOp (uAdd K) (tOp (uIx K) (tVar 0) (tC (.int 1))) (tOp (uMul K) (tOp (uMul K) (tC (.int 103155)) (tOp (uIx K) (tVar 0) (tC (.int 2)))) (tOp (uIx K) (tVar 0) (tC (.int 2))))) (tC (.int 4294))) tNil)) (tC (.int 3))) tNil)) (tVar 3)) (gName 4)) (tSeq (tAsg (tOp (uMod) (tCB (uInt) (tCons (tOp (uMul K) (tVar 4) (tOp (uAdd K) (tOp (uMod) (tCB (uInt) (tCons (tVar 4) tNil)) (tC (.int 20195))) (tOp (uMul K) (tC (.int 100)) (tOp (uIx K) (tVar 0) (tC (.int 2)))))) tNil)) (tC (.int 2305843009213693907))) (gName 4)) (tRet (tOp (uMod) (tCB (uInt) (tCons (tOp (uDiv) (tVar 4) (tC (.int 128))) tNil)) (tVar 1))))))))
theorem ok__law_take {P : Program} {w : World} {K : PySem.W.Frag} {mg : Str → Option Value} {base : Heap} {sp : Sp} (T : Tx K mg)
    (len : ∀ vs H Q E, sp vs H Q E → vs.length = 2) (hp : ∀ vs H Q E, sp vs H Q E → t__law_take K { nx := fun _ H' => Q .non H', rt := Q } (L2.start N__law_take vs) H)
    {f : Addr} {fd : FuncData} (F : Fun K ("_law_take" : Str) ("_law_take" : Str) s__law_take f fd) : FnOk P w K mg base CX0 1 f fd [("pot" : Str), ("upto" : Str)] sp := by
  have nd := sc__law_take.nd
  refine F.ok sc__law_take len (fun cdv A outer s H vs Q E hr h => ⟨t__law_take K, ?_, hp vs H Q E h⟩)
  exact (pss_cons (ps_if (pt_cmpR op_uGt (pe_ix (ix_u hr.units) (pv 0) (pe_int) (fun _ _ => rfl)) (pe_int) (nomark _)) (pss_cons (ps_set (i := 2) nd rfl (Or.inl rfl) (pe_op op_uMod (pe_callTy cr_uInt rfl T.b_int (by decide +kernel) (pa_cons (pe_ix (ix_u hr.units) (pv 0) (pe_int) (fun _ _ => rfl)) pa_nil)) (pv 1))) (pss_cons (ps_asg (pe_op op_uDiv (pe_ix (ix_u hr.units) (pv 0) (pe_int) (fun _ _ => rfl)) (pv 1)) (pg_sub (pv 0) (pe_int) (set_u hr.units))) (pss_one (ps_ret (pv 2))))) pss_nil) (pss_cons (ps_asg (pe_op op_uAdd (pe_ix (ix_u hr.units) (pv 0) (pe_int) (fun _ _ => rfl)) (pe_int)) (pg_sub (pv 0) (pe_int) (set_u hr.units))) (pss_cons (ps_set (i := 3) nd rfl (Or.inl rfl) (pe_ix (ix_u hr.units) (pe_lst (pa_cons (pe_int) (pa_cons (pe_int) (pa_cons (pe_int) (pa_cons (pe_int) (pa_cons (pe_int) pa_nil)))))) (pe_op op_uMod (pe_callTy cr_uInt rfl T.b_int (by decide +kernel) (pa_cons (pe_ix (ix_u hr.units) (pv 0) (pe_int) (fun _ _ => rfl)) pa_nil)) (pe_int)) (fun _ _ => rfl))) (pss_cons (ps_set (i := 4) nd rfl (Or.inl rfl) (pe_op op_uMod (pe_callTy cr_uInt rfl T.b_int (by decide +kernel) (pa_cons (pe_op op_uPow (pe_callTy cr_uInt rfl T.b_int (by decide +kernel) (pa_cons (pe_op op_uAdd (pe_op op_uAdd (pe_ix (ix_u hr.units) (pv 0) (pe_int) (fun _ _ => rfl)) (pe_op op_uMul (pe_op op_uMul (pe_int) (pe_ix (ix_u hr.units) (pv 0) (pe_int) (fun _ _ => rfl))) (pe_ix (ix_u hr.units) (pv 0) (pe_int) (fun _ _ => rfl)))) (pe_int)) pa_nil)) (pe_int)) pa_nil)) (pv 3))) (pss_cons (ps_set (i := 4) nd rfl (Or.inl rfl) (pe_op op_uMod (pe_callTy cr_uInt rfl T.b_int (by decide +kernel) (pa_cons (pe_op op_uMul (pv 4) (pe_op op_uAdd (pe_op op_uMod (pe_callTy cr_uInt rfl T.b_int (by decide +kernel) (pa_cons (pv 4) pa_nil)) (pe_int)) (pe_op op_uMul (pe_int) (pe_ix (ix_u hr.units) (pv 0) (pe_int) (fun _ _ => rfl))))) pa_nil)) (pe_int))) (pss_one (ps_ret (pe_op op_uMod (pe_callTy cr_uInt rfl T.b_int (by decide +kernel) (pa_cons (pe_op op_uDiv (pv 4) (pe_int)) pa_nil)) (pv 1)))))))))

abbrev s__law_cells : Stmt := top 100
abbrev N__law_cells : List Str := [("script" : Str), ("limit" : Str)]
theorem sc__law_cells : FnScope N__law_cells [("script" : Str), ("limit" : Str)] (defScope s__law_cells) := ⟨rfl, rfl, rfl, by decide +kernel, rfl, by decide +kernel, by decide +kernel⟩
def t__law_cells (K : PySem.W.Frag) : TS :=
  (tRet (tLstRg (tRg1 (tCB (uMax K) (tCons (tC (.int 1)) (tCons (tCB (uMin K) (tCons (tVar 1) (tCons (tCB (uLen K) (tCons (tVar 0) tNil)) tNil))) tNil))))))
theorem ok__law_cells {P : Program} {w : World} {K : PySem.W.Frag} {mg : Str → Option Value} {base : Heap} {sp : Sp} (T : Tx K mg)
    (len : ∀ vs H Q E, sp vs H Q E → vs.length = 2) (hp : ∀ vs H Q E, sp vs H Q E → t__law_cells K { nx := fun _ H' => Q .non H', rt := Q } (L2.start N__law_cells vs) H)
    {f : Addr} {fd : FuncData} (F : Fun K ("_law_cells" : Str) ("_law_cells" : Str) s__law_cells f fd) : FnOk P w K mg base CX0 1 f fd [("script" : Str), ("limit" : Str)] sp := by
  have nd := sc__law_cells.nd
  refine F.ok sc__law_cells len (fun cdv A outer s H vs Q E hr h => ⟨t__law_cells K, ?_, hp vs H Q E h⟩)
  exact (pss_one (ps_ret (pe_listRg rfl rfl T.b_list (prg_1 rfl T.b_range (pe_callB (cr_uMax rfl) rfl T.b_max (by decide +kernel) (pa_cons (pe_int) (pa_cons (pe_callB (cr_uMin rfl) rfl T.b_min (by decide +kernel) (pa_cons (pv 1) (pa_cons (pe_callB cr_uLen rfl T.b_len (by decide +kernel) (pa_cons (pv 0) pa_nil)) pa_nil))) pa_nil)))))))

abbrev s__law_right : Stmt := top 101
abbrev N__law_right : List Str := [("pot" : Str), ("long" : Str), ("many" : Str), ("young" : Str), ("life" : Str), ("names" : Str), ("signs" : Str), ("lines" : Str), ("grove" : Str), ("plants" : Str), ("there" : Str), ("lap" : Str), ("year" : Str), ("least" : Str), ("most" : Str), ("top" : Str), ("low" : Str), ("number" : Str), ("told" : Str), ("at" : Str), ("name" : Str), ("plant" : Str)]
theorem sc__law_right : FnScope N__law_right [("pot" : Str)] (defScope s__law_right) := ⟨rfl, rfl, rfl, by decide +kernel, rfl, by decide +kernel, by decide +kernel⟩
def t__law_right (K : PySem.W.Frag) (C_Grove : Addr) (sp__law_take : Sp) (sp_Grove___init__ : Sp) (sp_shifted : Sp) (sp_bearing : Sp) (sp_baskets : Sp) (sp_most_baskets : Sp) (sp_least_baskets : Sp) (sp_least_bearing : Sp) (sp_most_bearing : Sp) (sp_mean_baskets : Sp) (sp_best_plants : Sp) (sp_evenest : Sp) (sp_enough_plants : Sp) (sp_all_bear : Sp) (sp_how_many_with : Sp) : TS :=
  (tSeq (tAsg (tTup (tCons (tOp (uAdd K) (tC (.int 1)) (tCall sp__law_take [] E0 (tCons (tVar 0) (tCons (tC (.int 4)) tNil)))) (tCons (tOp (uAdd K) (tC (.int 1)) (tCall sp__law_take [] E0 (tCons (tVar 0) (tCons (tC (.int 3)) tNil)))) tNil))) (gU K 2 (gCons (gName 1) (gCons (gName 2) gNil)))) (tSeq (tAsg (tCB (uInt) (tCons (tCall sp__law_take [] E0 (tCons (tVar 0) (tCons (tVar 1) tNil))) tNil)) (gName 3)) (tSeq (tPar 4 5 (tCons (tTup (tCons (tVar 3) (tCons (tVar 1) tNil))) (tCons (tLc (iRng1 (tCons (tVar 2) tNil)) (gName 19) tYes (tOp (uAdd K) (tC (.str ("p" : Str))) (tCB (rStrI) (tCons (tVar 19) tNil))) [19]) tNil))) (tSeq (tAsg (tOp (uAdd K) (tOp (uMul K) (tC (.str ("0" : Str))) (tVar 3)) (tOp (uMul K) (tC (.str ("1" : Str))) (tOp (uSub) (tVar 1) (tVar 3)))) (gName 6)) (tSeq (tAsg (tLc (iAny K (tVar 5)) (gName 20) tYes (tOp (uAdd K) (tOp (uAdd K) (tOp (uAdd K) (tOp (uAdd K) (tC (.str ("palm " : Str))) (tVar 20)) (tC (.str (" 9 0 0 " : Str)))) (tVar 6)) (tC (.str (" 1" : Str)))) [20]) (gName 7)) (tSeq (tAsg (tMake C_Grove sp_Grove___init__ [] E0 (tCons (tM1 (rJoin K) (tC (.str ("\n" : Str))) (tOp (uAdd K) (tLst (tCons (tC (.str ("grove 1 1" : Str))) tNil)) (tVar 7))) tNil)) (gName 8)) (tSeq (tAsg (tCB (rTupS K) (tCons (tCB (rSortedI K) (tCons (tLc (iAny K (tVar 5)) (gName 20) tYes (tCB (uInt) (tCons (tCall sp__law_take [] E0 (tCons (tVar 0) (tCons (tVar 1) tNil))) tNil)) [20]) tNil)) tNil)) (gName 9)) (tSeq (tAsg (tCall sp_shifted [] E0 (tCons (tVar 8) (tCons (tCB (rTupS K) (tCons (tLc (iAny K (tVar 9)) (gName 21) tYes (tCB (uInt) (tCons (tOp (uMod) (tOp (uSub) (tVar 1) (tVar 21)) (tVar 1)) tNil)) [21]) tNil)) tNil))) (gName 10)) (tSeq (tFor (iRng1 (tCons (tC (.int 8)) tNil)) (gName 11) (tSeq (tAsg (tCB (uInt) (tCons (tCall sp__law_take [] E0 (tCons (tVar 0) (tCons (tC (.int 9999)) tNil))) tNil)) (gName 12)) (tIfS (tTest (tOp (uNe K) (tCall sp_bearing [] E0 (tCons (tVar 4) (tCons (tVar 9) (tCons (tVar 12) tNil)))) (tCall sp_baskets [] E0 (tCons (tVar 10) (tCons (tVar 12) tNil))))) (tRet (tC (.bl false))) tNext))) (tSeq (tPar 13 14 (tCons (tCall sp_least_baskets [] E0 (tCons (tVar 10) tNil)) (tCons (tCall sp_most_baskets [] E0 (tCons (tVar 10) tNil)) tNil))) (tSeq (tIfS ((tOr (tTest (tOp (uNe K) (tCall sp_least_bearing [] E0 (tCons (tVar 4) (tCons (tVar 9) tNil))) (tVar 13))) (tTest (tOp (uNe K) (tCall sp_most_bearing [] E0 (tCons (tVar 4) (tCons (tVar 9) tNil))) (tVar 14))))) (tRet (tC (.bl false))) tNext) (tSeq (tAsg (tCall sp_mean_baskets [] E0 (tCons (tVar 10) tNil)) (gU K 2 (gCons (gName 15) (gCons (gName 16) gNil)))) (tSeq (tIfS (tTest (tOp (uNe K) (tOp (uMul K) (tVar 15) (tVar 1)) (tOp (uMul K) (tOp (uMul K) (tVar 16) (tVar 2)) (tOp (uSub) (tVar 1) (tVar 3))))) (tRet (tC (.bl false))) tNext) (tSeq (tAsg (tOp (uIx K) (tCall sp_best_plants [] E0 (tCons (tVar 4) (tCons (tVar 2) tNil))) (tC (.int 0))) (gName 17)) (tSeq (tIfS ((tOr (tTest (tOp (uNe K) (tVar 17) (tOp (uDiv) (tOp (uMul K) (tVar 2) (tOp (uSub) (tVar 1) (tVar 3))) (tVar 1)))) (tTest (tOp (uLt) (tVar 17) (tOp (uIx K) (tVar 13) (tC (.int 0))))))) (tRet (tC (.bl false))) tNext) (tSeq (tIfS (tTest (tOp (uNe K) (tOp (uIx K) (tCall sp_evenest [] E0 (tCons (tVar 8) tNil)) (tC (.int 0))) (tVar 17))) (tRet (tC (.bl false))) tNext) (tSeq (tIfS ((tAnd (tTest (tOp (uGt) (tVar 17) (tC (.int 0)))) (tTest (tOp (uGt) (tOp (uIx K) (tCall sp_enough_plants [] E0 (tCons (tVar 4) (tCons (tVar 17) tNil))) (tC (.int 0))) (tVar 2))))) (tRet (tC (.bl false))) tNext) (tSeq (tAsg (tCall sp_all_bear [] E0 (tCons (tVar 10) tNil)) (gName 18)) (tSeq (tIfS (tTest (tOp (uNe K) (tOp (uEq K) (tOp (uIx K) (tVar 18) (tC (.int 0))) (tC (.str ("year" : Str)))) (tOp (uEq K) (tOp (uIx K) (tVar 14) (tC (.int 0))) (tVar 2)))) (tRet (tC (.bl false))) tNext) (tSeq (tIfS ((tAnd (tTest (tOp (uEq K) (tOp (uIx K) (tVar 18) (tC (.int 0))) (tC (.str ("year" : Str))))) (tTest (tOp (uNe K) (tCall sp_baskets [] E0 (tCons (tVar 10) (tCons (tOp (uIx K) (tVar 18) (tC (.int 1))) tNil))) (tVar 2))))) (tRet (tC (.bl false))) tNext) (tRet ((tAndV (tOp (uEq K) (tOp (uGt) (tCall sp_how_many_with [] E0 (tCons (tVar 10) (tCons (tVar 2) tNil))) (tC (.int 0))) (tOp (uEq K) (tOp (uIx K) (tVar 18) (tC (.int 0))) (tC (.str ("year" : Str))))) (tOp (uEq K) (tCall sp_how_many_with [] E0 (tCons (tVar 10) (tCons (tOp (uIx K) (tVar 13) (tC (.int 0))) tNil))) (tC (.int 60))))))))))))))))))))))))))
theorem ok__law_right {P : Program} {w : World} {K : PySem.W.Frag} {mg : Str → Option Value} {base : Heap} {sp : Sp} {C_Grove : Addr} {sp__law_take : Sp} {sp_Grove___init__ : Sp} {sp_shifted : Sp} {sp_bearing : Sp} {sp_baskets : Sp} {sp_most_baskets : Sp} {sp_least_baskets : Sp} {sp_least_bearing : Sp} {sp_most_bearing : Sp} {sp_mean_baskets : Sp} {sp_best_plants : Sp} {sp_evenest : Sp} {sp_enough_plants : Sp} {sp_all_bear : Sp} {sp_how_many_with : Sp} (T : Tx K mg) (D__law_take : Df P w K mg base ("_law_take" : Str) 1 [("pot" : Str), ("upto" : Str)] sp__law_take) (D_Grove___init__ : Di P w K mg base ("Grove" : Str) C_Grove 6 [("self" : Str), ("text" : Str)] sp_Grove___init__) (D_shifted : Df P w K mg base ("shifted" : Str) 10 [("grove" : Str), ("shifts" : Str)] sp_shifted) (D_bearing : Df P w K mg base ("bearing" : Str) 5 [("life" : Str), ("plants" : Str), ("year" : Str)] sp_bearing) (D_baskets : Df P w K mg base ("baskets" : Str) 4 [("grove" : Str), ("year" : Str)] sp_baskets) (D_most_baskets : Df P w K mg base ("most_baskets" : Str) 5 [("grove" : Str)] sp_most_baskets) (D_least_baskets : Df P w K mg base ("least_baskets" : Str) 5 [("grove" : Str)] sp_least_baskets) (D_least_bearing : Df P w K mg base ("least_bearing" : Str) 5 [("life" : Str), ("plants" : Str)] sp_least_bearing) (D_most_bearing : Df P w K mg base ("most_bearing" : Str) 5 [("life" : Str), ("plants" : Str)] sp_most_bearing) (D_mean_baskets : Df P w K mg base ("mean_baskets" : Str) 5 [("grove" : Str)] sp_mean_baskets) (D_best_plants : Df P w K mg base ("best_plants" : Str) 4 [("life" : Str), ("many" : Str)] sp_best_plants) (D_evenest : Df P w K mg base ("evenest" : Str) 5 [("grove" : Str)] sp_evenest) (D_enough_plants : Df P w K mg base ("enough_plants" : Str) 5 [("life" : Str), ("least" : Str)] sp_enough_plants) (D_all_bear : Df P w K mg base ("all_bear" : Str) 6 [("grove" : Str)] sp_all_bear) (D_how_many_with : Df P w K mg base ("how_many_with" : Str) 5 [("grove" : Str), ("number" : Str)] sp_how_many_with)
    (len : ∀ vs H Q E, sp vs H Q E → vs.length = 1) (hp : ∀ vs H Q E, sp vs H Q E → t__law_right K C_Grove sp__law_take sp_Grove___init__ sp_shifted sp_bearing sp_baskets sp_most_baskets sp_least_baskets sp_least_bearing sp_most_bearing sp_mean_baskets sp_best_plants sp_evenest sp_enough_plants sp_all_bear sp_how_many_with { nx := fun _ H' => Q .non H', rt := Q } (L2.start N__law_right vs) H)
    {f : Addr} {fd : FuncData} (F : Fun K ("_law_right" : Str) ("_law_right" : Str) s__law_right f fd) : FnOk P w K mg base CX0 11 f fd [("pot" : Str)] sp := by
  have nd := sc__law_right.nd
  refine F.ok sc__law_right len (fun cdv A outer s H vs Q E hr h => ⟨t__law_right K C_Grove sp__law_take sp_Grove___init__ sp_shifted sp_bearing sp_baskets sp_most_baskets sp_least_baskets sp_least_bearing sp_most_bearing sp_mean_baskets sp_best_plants sp_evenest sp_enough_plants sp_all_bear sp_how_many_with, ?_, hp vs H Q E h⟩)
  exact (pss_cons (ps_asg (pe_tup (pa_cons (pe_op op_uAdd (pe_int) (pe_callD D__law_take (hr.mono (by decide)) (pa_cons (pv 0) (pa_cons (pe_int) pa_nil)))) (pa_cons (pe_op op_uAdd (pe_int) (pe_callD D__law_take (hr.mono (by decide)) (pa_cons (pv 0) (pa_cons (pe_int) pa_nil)))) pa_nil))) (pg_gU rfl (pgs_cons (pg_name (i := 1) nd rfl (Or.inr rfl)) (pgs_cons (pg_name (i := 2) nd rfl (Or.inl rfl)) pgs_nil)))) (pss_cons (ps_set (i := 3) nd rfl (Or.inl rfl) (pe_callTy cr_uInt rfl T.b_int (by decide +kernel) (pa_cons (pe_callD D__law_take (hr.mono (by decide)) (pa_cons (pv 0) (pa_cons (pv 1) pa_nil))) pa_nil))) (pss_cons (ps_par (i := 4) (j := 5) rfl nd rfl rfl (by decide) rfl rfl (pa_cons (pe_tup (pa_cons (pv 3) (pa_cons (pv 1) pa_nil))) (pa_cons (pe_lc (own := [(("at" : Str), 19)]) (g := (gName 19)) (tt := tYes) rfl nd (pi_range1 rfl T.b_range (pa_cons (pv 2) pa_nil)) (blkOk_by (N := N__law_right) (sc := defScope s__law_right) (by decide +kernel)) (fun _ _ _ _ _ => (pg_name (i := 19) nd rfl (Or.inl rfl))) (fun _ _ _ _ _ => pts_nil) (fun _ _ _ _ _ => (pe_op op_uAdd (pe_str) (pe_callTy cr_uStr rfl T.b_str (by decide +kernel) (pa_cons (pv 19) pa_nil))))) pa_nil)) (by rfl)) (pss_cons (ps_set (i := 6) nd rfl (Or.inr rfl) (pe_op op_uAdd (pe_op op_uMul (pe_str) (pv 3)) (pe_op op_uMul (pe_str) (pe_op op_uSub (pv 1) (pv 3))))) (pss_cons (ps_setLc (i := 7) (own := [(("name" : Str), 20)]) (g := (gName 20)) (tt := tYes) rfl nd rfl rfl (sw_true rfl rfl rfl (by decide +kernel)) (pi_any (pv 5)) (blkOk_by (N := N__law_right) (sc := defScope s__law_right) (by decide +kernel)) (fun _ _ _ _ _ => (pg_name (i := 20) nd rfl (Or.inl rfl))) (fun _ _ _ _ _ => pts_nil) (fun _ _ _ _ _ => (pe_op op_uAdd (pe_op op_uAdd (pe_op op_uAdd (pe_op op_uAdd (pe_str) (pv 20)) (pe_str)) (pv 6)) (pe_str)))) (pss_cons (ps_set (i := 8) nd rfl (Or.inl rfl) (pe_makeD D_Grove___init__ (hr.mono (by decide)) (pa_cons (pe_join (pe_str) (pe_op op_uAdd (pe_lst (pa_cons (pe_str) pa_nil)) (pv 7))) pa_nil))) (pss_cons (ps_set (i := 9) nd rfl (Or.inl rfl) (pe_callTy cr_uTup rfl T.b_tuple (by decide +kernel) (pa_cons (pe_callB cr_sortedI rfl T.b_sorted (by decide +kernel) (pa_cons (pe_lc (own := [(("name" : Str), 20)]) (g := (gName 20)) (tt := tYes) rfl nd (pi_any (pv 5)) (blkOk_by (N := N__law_right) (sc := defScope s__law_right) (by decide +kernel)) (fun _ _ _ _ _ => (pg_name (i := 20) nd rfl (Or.inl rfl))) (fun _ _ _ _ _ => pts_nil) (fun _ _ _ _ _ => (pe_callTy cr_uInt rfl T.b_int (by decide +kernel) (pa_cons (pe_callD D__law_take (hr.mono (by decide)) (pa_cons (pv 0) (pa_cons (pv 1) pa_nil))) pa_nil)))) pa_nil)) pa_nil))) (pss_cons (ps_set (i := 10) nd rfl (Or.inl rfl) (pe_callD D_shifted (hr.mono (by decide)) (pa_cons (pv 8) (pa_cons (pe_callTy cr_uTup rfl T.b_tuple (by decide +kernel) (pa_cons (pe_lc (own := [(("plant" : Str), 21)]) (g := (gName 21)) (tt := tYes) rfl nd (pi_any (pv 9)) (blkOk_by (N := N__law_right) (sc := defScope s__law_right) (by decide +kernel)) (fun _ _ _ _ _ => (pg_name (i := 21) nd rfl (Or.inl rfl))) (fun _ _ _ _ _ => pts_nil) (fun _ _ _ _ _ => (pe_callTy cr_uInt rfl T.b_int (by decide +kernel) (pa_cons (pe_op op_uMod (pe_op op_uSub (pv 1) (pv 21)) (pv 1)) pa_nil)))) pa_nil)) pa_nil)))) (pss_cons (ps_for PassesOwn.never rfl (pi_range1 rfl T.b_range (pa_cons (pe_int) pa_nil)) (pg_name (i := 11) nd rfl (Or.inl rfl)) (pss_cons (ps_set (i := 12) nd rfl (Or.inl rfl) (pe_callTy cr_uInt rfl T.b_int (by decide +kernel) (pa_cons (pe_callD D__law_take (hr.mono (by decide)) (pa_cons (pv 0) (pa_cons (pe_int) pa_nil))) pa_nil))) (pss_one (ps_if (pt_cmpR (op_uNe hr.units) (pe_callD D_bearing (hr.mono (by decide)) (pa_cons (pv 4) (pa_cons (pv 9) (pa_cons (pv 12) pa_nil)))) (pe_callD D_baskets (hr.mono (by decide)) (pa_cons (pv 10) (pa_cons (pv 12) pa_nil))) (nomark _)) (pss_one (ps_ret (pe_bl))) pss_nil)))) (pss_cons (ps_par (i := 13) (j := 14) rfl nd rfl rfl (by decide) rfl rfl (pa_cons (pe_callD D_least_baskets (hr.mono (by decide)) (pa_cons (pv 10) pa_nil)) (pa_cons (pe_callD D_most_baskets (hr.mono (by decide)) (pa_cons (pv 10) pa_nil)) pa_nil)) (by rfl)) (pss_cons (ps_if (PW.pt (pw_or (pt_cmpR (op_uNe hr.units) (pe_callD D_least_bearing (hr.mono (by decide)) (pa_cons (pv 4) (pa_cons (pv 9) pa_nil))) (pv 13) (nomark _)) (pw_or1 (pt_cmpR (op_uNe hr.units) (pe_callD D_most_bearing (hr.mono (by decide)) (pa_cons (pv 4) (pa_cons (pv 9) pa_nil))) (pv 14) (nomark _))))) (pss_one (ps_ret (pe_bl))) pss_nil) (pss_cons (ps_asg (pe_callD D_mean_baskets (hr.mono (by decide)) (pa_cons (pv 10) pa_nil)) (pg_gU rfl (pgs_cons (pg_name (i := 15) nd rfl (Or.inl rfl)) (pgs_cons (pg_name (i := 16) nd rfl (Or.inl rfl)) pgs_nil)))) (pss_cons (ps_if (pt_cmpR (op_uNe hr.units) (pe_op op_uMul (pv 15) (pv 1)) (pe_op op_uMul (pe_op op_uMul (pv 16) (pv 2)) (pe_op op_uSub (pv 1) (pv 3))) (nomark _)) (pss_one (ps_ret (pe_bl))) pss_nil) (pss_cons (ps_set (i := 17) nd rfl (Or.inl rfl) (pe_ix (ix_u hr.units) (pe_callD D_best_plants (hr.mono (by decide)) (pa_cons (pv 4) (pa_cons (pv 2) pa_nil))) (pe_int) (fun _ _ => rfl))) (pss_cons (ps_if (PW.pt (pw_or (pt_cmpR (op_uNe hr.units) (pv 17) (pe_op op_uDiv (pe_op op_uMul (pv 2) (pe_op op_uSub (pv 1) (pv 3))) (pv 1)) (nomark _)) (pw_or1 (pt_cmpR op_uLt (pv 17) (pe_ix (ix_u hr.units) (pv 13) (pe_int) (fun _ _ => rfl)) (nomark _))))) (pss_one (ps_ret (pe_bl))) pss_nil) (pss_cons (ps_if (pt_cmpR (op_uNe hr.units) (pe_ix (ix_u hr.units) (pe_callD D_evenest (hr.mono (by decide)) (pa_cons (pv 8) pa_nil)) (pe_int) (fun _ _ => rfl)) (pv 17) (nomark _)) (pss_one (ps_ret (pe_bl))) pss_nil) (pss_cons (ps_if (PW.pt (pw_and (pt_cmpR op_uGt (pv 17) (pe_int) (nomark _)) (pw_and1 (pt_cmpR op_uGt (pe_ix (ix_u hr.units) (pe_callD D_enough_plants (hr.mono (by decide)) (pa_cons (pv 4) (pa_cons (pv 17) pa_nil))) (pe_int) (fun _ _ => rfl)) (pv 2) (nomark _))))) (pss_one (ps_ret (pe_bl))) pss_nil) (pss_cons (ps_set (i := 18) nd rfl (Or.inl rfl) (pe_callD D_all_bear (hr.mono (by decide)) (pa_cons (pv 10) pa_nil))) (pss_cons (ps_if (pt_cmpR (op_uNe hr.units) (pe_cmpR (op_uEq hr.units) (pe_ix (ix_u hr.units) (pv 18) (pe_int) (fun _ _ => rfl)) (pe_str) (nomark _)) (pe_cmpR (op_uEq hr.units) (pe_ix (ix_u hr.units) (pv 14) (pe_int) (fun _ _ => rfl)) (pv 2) (nomark _)) (nomark _)) (pss_one (ps_ret (pe_bl))) pss_nil) (pss_cons (ps_if (PW.pt (pw_and (pt_cmpR (op_uEq hr.units) (pe_ix (ix_u hr.units) (pv 18) (pe_int) (fun _ _ => rfl)) (pe_str) (nomark _)) (pw_and1 (pt_cmpR (op_uNe hr.units) (pe_callD D_baskets (hr.mono (by decide)) (pa_cons (pv 10) (pa_cons (pe_ix (ix_u hr.units) (pv 18) (pe_int) (fun _ _ => rfl)) pa_nil))) (pv 2) (nomark _))))) (pss_one (ps_ret (pe_bl))) pss_nil) (pss_one (ps_ret ((pe_and (pe_cmpR (op_uEq hr.units) (pe_cmpR op_uGt (pe_callD D_how_many_with (hr.mono (by decide)) (pa_cons (pv 10) (pa_cons (pv 2) pa_nil))) (pe_int) (nomark _)) (pe_cmpR (op_uEq hr.units) (pe_ix (ix_u hr.units) (pv 18) (pe_int) (fun _ _ => rfl)) (pe_str) (nomark _)) (nomark _)) (pe_one (pe_cmpR (op_uEq hr.units) (pe_callD D_how_many_with (hr.mono (by decide)) (pa_cons (pv 10) (pa_cons (pe_ix (ix_u hr.units) (pv 13) (pe_int) (fun _ _ => rfl)) pa_nil))) (pe_int) (nomark _)))))))))))))))))))))))))))

abbrev s_law : Stmt := top 102
abbrev N_law : List Str := [("script" : Str), ("place" : Str), ("pot" : Str), ("lap" : Str)]
theorem sc_law : FnScope N_law [("script" : Str)] (defScope s_law) := ⟨rfl, rfl, rfl, by decide +kernel, rfl, by decide +kernel, by decide +kernel⟩
def t_law (K : PySem.W.Frag) (sp__law_cells : Sp) (sp__law_pot : Sp) (sp__law_right : Sp) : TS :=
  (tSeq (tFor (iAny K (tCall sp__law_cells [] E0 (tCons (tVar 0) (tCons (tC (.int 2)) tNil)))) (gName 1) (tSeq (tAsg (tCall sp__law_pot [] E0 (tCons (tVar 0) (tCons (tVar 1) tNil))) (gName 2)) (tIfS (tNot (tB (tCB (rAll K) (tCons (tLc (iRng1 (tCons (tC (.int 3)) tNil)) (gName 3) tYes (tCall sp__law_right [] E0 (tCons (tVar 2) tNil)) [3]) tNil)))) (tRet (tC (.bl false))) tNext))) (tRet (tC (.bl true))))
theorem ok_law {P : Program} {w : World} {K : PySem.W.Frag} {mg : Str → Option Value} {base : Heap} {sp : Sp} {sp__law_cells : Sp} {sp__law_pot : Sp} {sp__law_right : Sp} (T : Tx K mg) (D__law_cells : Df P w K mg base ("_law_cells" : Str) 1 [("script" : Str), ("limit" : Str)] sp__law_cells) (D__law_pot : Df P w K mg base ("_law_pot" : Str) 1 [("script" : Str), ("place" : Str)] sp__law_pot) (D__law_right : Df P w K mg base ("_law_right" : Str) 11 [("pot" : Str)] sp__law_right)
    (len : ∀ vs H Q E, sp vs H Q E → vs.length = 1) (hp : ∀ vs H Q E, sp vs H Q E → t_law K sp__law_cells sp__law_pot sp__law_right { nx := fun _ H' => Q .non H', rt := Q } (L2.start N_law vs) H)
    {f : Addr} {fd : FuncData} (F : Fun K ("law" : Str) ("law" : Str) s_law f fd) : FnOk P w K mg base CX0 12 f fd [("script" : Str)] sp := by
  have nd := sc_law.nd
  refine F.ok sc_law len (fun cdv A outer s H vs Q E hr h => ⟨t_law K sp__law_cells sp__law_pot sp__law_right, ?_, hp vs H Q E h⟩)
  exact (pss_cons (ps_for PassesOwn.never rfl (pi_any (pe_callD D__law_cells (hr.mono (by decide)) (pa_cons (pv 0) (pa_cons (pe_int) pa_nil)))) (pg_name (i := 1) nd rfl (Or.inl rfl)) (pss_cons (ps_set (i := 2) nd rfl (Or.inr rfl) (pe_callD D__law_pot (hr.mono (by decide)) (pa_cons (pv 0) (pa_cons (pv 1) pa_nil)))) (pss_one (ps_if (pt_not (pt_val (pe_callB (cr_all rfl) rfl T.b_all (by decide +kernel) (pa_cons (pe_lc (own := [(("lap" : Str), 3)]) (g := (gName 3)) (tt := tYes) rfl nd (pi_range1 rfl T.b_range (pa_cons (pe_int) pa_nil)) (blkOk_by (N := N_law) (sc := defScope s_law) (by decide +kernel)) (fun _ _ _ _ _ => (pg_name (i := 3) nd rfl (Or.inl rfl))) (fun _ _ _ _ _ => pts_nil) (fun _ _ _ _ _ => (pe_callD D__law_right (hr.mono (by decide)) (pa_cons (pv 2) pa_nil)))) pa_nil)))) (pss_one (ps_ret (pe_bl))) pss_nil)))) (pss_one (ps_ret (pe_bl))))
end K92

set_option Elab.async false
set_option linter.all false
set_option maxRecDepth 100000
set_option maxHeartbeats 4000000
set_option autoImplicit false
namespace K92
open PySem L2 Dm StX PyProof.Rows
variable {K : PySem.W.Frag}
structure O_GroveReader where
  own_head : Option ((Int × Int))
  own_palms : List (Str × ((Int × Int × Int × Str × Int)))
  own_males : List (Str × ((Int × Int × Int)))
abbrev ns_GroveReader : List Str := [("own_head" : Str), ("own_palms" : Str), ("own_males" : Str)]
abbrev dO_GroveReader (C_GroveReader : Addr) (x : O_GroveReader) : D := .obj C_GroveReader ns_GroveReader [optD (fun z1 : (Int × Int) => D.tup [D.int z1.1, D.int z1.2]) x.own_head, mD (Sum.inr : Str → Key) (fun z1 : (Int × Int × Int × Str × Int) => D.tup [D.int z1.1, D.int z1.2.1, D.int z1.2.2.1, D.str z1.2.2.2.1, D.int z1.2.2.2.2]) x.own_palms, mD (Sum.inr : Str → Key) (fun z1 : (Int × Int × Int) => D.tup [D.int z1.1, D.int z1.2.1, D.int z1.2.2]) x.own_males]
abbrev oO_GroveReader (C_GroveReader : Addr) (x : O_GroveReader) : OD := .obj C_GroveReader [("own_head" : Str), ("own_palms" : Str), ("own_males" : Str)] [.val (optD (fun z1 : (Int × Int) => D.tup [D.int z1.1, D.int z1.2]) x.own_head), oM (Sum.inr : Str → Key) (fun z1 : (Int × Int × Int × Str × Int) => D.tup [D.int z1.1, D.int z1.2.1, D.int z1.2.2.1, D.str z1.2.2.2.1, D.int z1.2.2.2.2]) x.own_palms, oM (Sum.inr : Str → Key) (fun z1 : (Int × Int × Int) => D.tup [D.int z1.1, D.int z1.2.1, D.int z1.2.2]) x.own_males]
theorem fz_O_GroveReader {C_GroveReader : Addr} {x : O_GroveReader} : (oO_GroveReader C_GroveReader x).fz = dO_GroveReader C_GroveReader x := by
  show D.obj _ _ (OD.fzs _) = _
  simp only [fzs_cons, fz_oM, fz_odL]
  rfl
structure CK_GroveReader (K : PySem.W.Frag) (C : Addr) : Prop where
  cls : Cls K C
  isi : C8.InsC K C
  n_own_head : NoAttr K C ("own_head" : Str)
  n_own_palms : NoAttr K C ("own_palms" : Str)
  n_own_males : NoAttr K C ("own_males" : Str)
structure O_Grove where
  own_text : Str
  own_head : Option ((Int × Int))
  own_palms : List (Str × ((Int × Int × Int × Str × Int)))
  own_males : List (Str × ((Int × Int × Int)))
abbrev ns_Grove : List Str := [("own_text" : Str), ("own_head" : Str), ("own_palms" : Str), ("own_males" : Str)]
abbrev dO_Grove (C_Grove : Addr) (x : O_Grove) : D := .obj C_Grove ns_Grove [D.str x.own_text, optD (fun z1 : (Int × Int) => D.tup [D.int z1.1, D.int z1.2]) x.own_head, mD (Sum.inr : Str → Key) (fun z1 : (Int × Int × Int × Str × Int) => D.tup [D.int z1.1, D.int z1.2.1, D.int z1.2.2.1, D.str z1.2.2.2.1, D.int z1.2.2.2.2]) x.own_palms, mD (Sum.inr : Str → Key) (fun z1 : (Int × Int × Int) => D.tup [D.int z1.1, D.int z1.2.1, D.int z1.2.2]) x.own_males]
abbrev oO_Grove (C_Grove : Addr) (x : O_Grove) : OD := .obj C_Grove [("own_text" : Str), ("own_head" : Str), ("own_palms" : Str), ("own_males" : Str)] [.val (D.str x.own_text), .val (optD (fun z1 : (Int × Int) => D.tup [D.int z1.1, D.int z1.2]) x.own_head), .val (mD (Sum.inr : Str → Key) (fun z1 : (Int × Int × Int × Str × Int) => D.tup [D.int z1.1, D.int z1.2.1, D.int z1.2.2.1, D.str z1.2.2.2.1, D.int z1.2.2.2.2]) x.own_palms), .val (mD (Sum.inr : Str → Key) (fun z1 : (Int × Int × Int) => D.tup [D.int z1.1, D.int z1.2.1, D.int z1.2.2]) x.own_males)]
theorem fz_O_Grove {C_Grove : Addr} {x : O_Grove} : (oO_Grove C_Grove x).fz = dO_Grove C_Grove x := by
  show D.obj _ _ (OD.fzs _) = _
  simp only [fzs_cons, fz_oM, fz_odL]
  rfl
structure CK_Grove (K : PySem.W.Frag) (C : Addr) : Prop where
  cls : Cls K C
  isi : C8.InsC K C
  n_own_text : NoAttr K C ("own_text" : Str)
  n_own_head : NoAttr K C ("own_head" : Str)
  n_own_palms : NoAttr K C ("own_palms" : Str)
  n_own_males : NoAttr K C ("own_males" : Str)
def F_is_integer (a0 : Int) : Option Bool :=
  some ((true && (!false)))
def M_is_integer : List Nat := []
def R_is_integer (ds : List D) (x : Res) : Prop := ∃ (a0 : Int) (r : Bool), F_is_integer a0 = some r ∧ ds = [D.int a0] ∧ x = .v (D.bl r)
theorem len_is_integer : ∀ (vs : List V) (H : Hp) (Q : VK) (E : XK), spF K R_is_integer vs H Q E → vs.length = 1 := spF_len (by rintro _ _ ⟨_, _, _, rfl, _⟩; rfl)
theorem p_is_integer : ∀ ds x, R_is_integer ds x → Dm.St K M_is_integer (t_is_integer K) (ds.map Slot.val ++ List.replicate (N_is_integer.length - ds.length) .no) (RetF x) := by
  rintro _ _ ⟨a0, r, h, rfl, rfl⟩
  show Dm.St K _ _ [.val (D.int a0)] _
  unfold F_is_integer at h
  cases h
  refine st_ret (ev_andV (ev_cb (ea_cons (ev_var rfl) (ea_cons ev_ty ea_nil)) (d_isiTy (b := true) rfl (by decide +kernel))) fun _ => (ev_notV (ev_cb (ea_cons (ev_var rfl) (ea_cons ev_ty ea_nil)) (d_isiTy (b := false) rfl (by decide +kernel))))) rfl
def F_is_name (a0 : Str) : Option Bool :=
  (if (!true) = true then some true else (pyLenS a0).bind fun v4 =>
  (if (!(decide ((0 : Int) < v4) && decide (v4 ≤ (8 : Int)))) = true then some true else (pyIxS a0 ((0 : Int))).bind fun v5 =>
  (pySgIn v5 (("abcdefghijklmnopqrstuvwxyz" : Str))).bind fun v6 =>
  some ((!v6))).bind fun v7 =>
  some v7).bind fun v9 =>
  if v9 = true then some false else
  (lcM (fun x11 => some true) (fun x11 => (pySgIn x11 (("abcdefghijklmnopqrstuvwxyz" : Str))).bind fun v12 =>
  (if v12 = true then some true else (pySgIn x11 (("0123456789" : Str))).bind fun v13 =>
  some v13).bind fun v14 =>
  some v14) (sgs a0)).bind fun l16 =>
  some ((l16.all id))
def M_is_name : List Nat := []
def R_is_name (ds : List D) (x : Res) : Prop := ∃ (a0 : Str) (r : Bool), F_is_name a0 = some r ∧ ds = [D.str a0] ∧ x = .v (D.bl r)
theorem len_is_name : ∀ (vs : List V) (H : Hp) (Q : VK) (E : XK), spF K R_is_name vs H Q E → vs.length = 1 := spF_len (by rintro _ _ ⟨_, _, _, rfl, _⟩; rfl)
theorem p_is_name : ∀ ds x, R_is_name ds x → Dm.St K M_is_name (t_is_name K) (ds.map Slot.val ++ List.replicate (N_is_name.length - ds.length) .no) (RetF x) := by
  rintro _ _ ⟨a0, r, h, rfl, rfl⟩
  show Dm.St K _ _ [.val (D.str a0), .no] _
  unfold F_is_name at h
  obtain ⟨v9, hv9, h⟩ := Option.bind_eq_some_iff.mp h
  refine q_if (et_orO (et_not (et_B (ev_cb (ea_cons (ev_var rfl) (ea_cons ev_ty ea_nil)) (d_isiTy (b := true) rfl (by decide +kernel))))) hv9 ?k10) (fun hc => ?kt1) (fun hc => ?kf2)
  case k10 =>
    intro hc hb
    obtain ⟨v4, hv4, hb⟩ := Option.bind_eq_some_iff.mp hb
    obtain ⟨v7, hv7, hb⟩ := Option.bind_eq_some_iff.mp hb
    cases hb
    refine (et_orO (et_not (et_test (ev_chain ev_int (ev_cb (ea_cons (ev_var rfl) ea_nil) (ty_lenS hv4)) d_lt fun _ => ⟨ev_int, d_le⟩))) hv7 ?k8)
    case k8 =>
      intro hc hb
      obtain ⟨v5, hv5, hb⟩ := Option.bind_eq_some_iff.mp hb
      obtain ⟨v6, hv6, hb⟩ := Option.bind_eq_some_iff.mp hb
      cases hb
      refine (et_test (ev_op (ev_op (ev_var rfl) ev_int (ty_ixS hv5)) ev_str (ty_niG hv6)))
  case kt1 =>
    rw [if_pos hc] at h
    cases h
    refine st_ret ev_bl rfl
  case kf2 =>
    rw [if_neg (by rw [hc]; exact Bool.false_ne_true)] at h
    refine st_next ?_
    show Dm.St K _ _ [.val (D.str a0), .no] _
    obtain ⟨l16, hl16, h⟩ := Option.bind_eq_some_iff.mp h
    cases h
    refine st_ret (ev_cb (ea_cons (ev_fzT (ew_lcT (φ := D.str) (ψ := D.bl) (it_anyS (ev_var rfl)) hl16 (fun _ => trivial) rfl ?k17)) ea_nil) d_all) rfl
    case k17 =>
      intro x11 hx
      refine turn1 (e' := _) (gd_name (by decide)) ?_ ?_
      · intro b hb
        cases hb
        refine et_yes
      · intro y hc hb
        obtain ⟨v12, hv12, hb⟩ := Option.bind_eq_some_iff.mp hb
        obtain ⟨v14, hv14, hb⟩ := Option.bind_eq_some_iff.mp hb
        cases hb
        refine (ev_orO (ev_op (ev_var rfl) ev_str (ty_inG hv12)) hv14 ?k15)
        case k15 =>
          intro hc hb
          obtain ⟨v13, hv13, hb⟩ := Option.bind_eq_some_iff.mp hb
          cases hb
          refine (ev_op (ev_var rfl) ev_str (ty_inG hv13))
def F_read_integer (a0 : Str) : Option (Option Int) :=
  (pySlS a0 none (some ((1 : Int)))).bind fun v1 =>
  (if (decide (v1 = ("-" : Str))) = true then (pySlS a0 (some ((1 : Int))) none).bind fun v2 =>
  some v2 else some a0).bind fun v3 =>
  (if (decide (v3 = ("" : Str))) = true then some true else (pyLenS v3).bind fun v9 =>
  (if (decide ((9 : Int) < v9)) = true then some true else (lcM (fun x10 => some true) (fun x10 => (pySgIn x10 (("0123456789" : Str))).bind fun v11 =>
  some v11) (sgs v3)).bind fun l12 =>
  some ((!(l12.all id)))).bind fun v14 =>
  some v14).bind fun v16 =>
  if v16 = true then some ((none : Option Int)) else
  (pyInt a0).bind fun v18 =>
  (pyStr v18).bind fun v19 =>
  (if (decide (v19 = a0)) = true then some ((some v18)) else some ((none : Option Int))).bind fun v20 =>
  some v20
def M_read_integer : List Nat := []
def R_read_integer (ds : List D) (x : Res) : Prop := ∃ (a0 : Str) (r : Option Int), F_read_integer a0 = some r ∧ ds = [D.str a0] ∧ x = .v (optD D.int r)
theorem len_read_integer : ∀ (vs : List V) (H : Hp) (Q : VK) (E : XK), spF K R_read_integer vs H Q E → vs.length = 1 := spF_len (by rintro _ _ ⟨_, _, _, rfl, _⟩; rfl)
theorem p_read_integer : ∀ ds x, R_read_integer ds x → Dm.St K M_read_integer (t_read_integer K) (ds.map Slot.val ++ List.replicate (N_read_integer.length - ds.length) .no) (RetF x) := by
  rintro _ _ ⟨a0, r, h, rfl, rfl⟩
  show Dm.St K _ _ [.val (D.str a0), .no, .no, .no] _
  unfold F_read_integer at h
  obtain ⟨v1, hv1, h⟩ := Option.bind_eq_some_iff.mp h
  obtain ⟨v3, hv3, h⟩ := Option.bind_eq_some_iff.mp h
  refine q (st_asg (ev_ifE (φ := D.str) (et_test (ev_op (ev_slST (ev_var rfl) eo_none (eo_some ev_int) hv1) ev_str d_eqS)) hv3 ?k4 ?k5) ?nx24)
  case k4 =>
    intro hc hb
    obtain ⟨v2, hv2, hb⟩ := Option.bind_eq_some_iff.mp hb
    cases hb
    refine (ev_slST (ev_var rfl) (eo_some ev_int) eo_none hv2)
  case k5 =>
    intro hc hb
    cases hb
    refine (ev_var rfl)
  case nx24 =>
    show Dm.St K _ _ [.val (D.str a0), .val (D.str v3), .no, .no] _
    obtain ⟨v16, hv16, h⟩ := Option.bind_eq_some_iff.mp h
    refine q_if (et_orO (et_test (ev_op (ev_var rfl) ev_str d_eqS)) hv16 ?k17) (fun hc => ?kt6) (fun hc => ?kf7)
    case k17 =>
      intro hc hb
      obtain ⟨v9, hv9, hb⟩ := Option.bind_eq_some_iff.mp hb
      obtain ⟨v14, hv14, hb⟩ := Option.bind_eq_some_iff.mp hb
      cases hb
      refine (et_orO (et_test (ev_op (ev_cb (ea_cons (ev_var rfl) ea_nil) (ty_lenS hv9)) ev_int d_gt)) hv14 ?k15)
      case k15 =>
        intro hc hb
        obtain ⟨l12, hl12, hb⟩ := Option.bind_eq_some_iff.mp hb
        cases hb
        refine (et_not (et_B (ev_cb (ea_cons (ev_fzT (ew_lcT (φ := D.str) (ψ := D.bl) (it_anyS (ev_var rfl)) hl12 (fun _ => trivial) rfl ?k13)) ea_nil) d_all)))
        case k13 =>
          intro x10 hx
          refine turn1 (e' := _) (gd_name (by decide)) ?_ ?_
          · intro b hb
            cases hb
            refine et_yes
          · intro y hc hb
            obtain ⟨v11, hv11, hb⟩ := Option.bind_eq_some_iff.mp hb
            cases hb
            refine (ev_op (ev_var rfl) ev_str (ty_inG hv11))
    case kt6 =>
      rw [if_pos hc] at h
      cases h
      refine st_ret ev_non rfl
    case kf7 =>
      rw [if_neg (by rw [hc]; exact Bool.false_ne_true)] at h
      refine st_next ?_
      show Dm.St K _ _ [.val (D.str a0), .val (D.str v3), .no, .no] _
      obtain ⟨v18, hv18, h⟩ := Option.bind_eq_some_iff.mp h
      refine q (st_asg (ev_cb (ea_cons (ev_var rfl) ea_nil) (ty_intS hv18)) ?_)
      show Dm.St K _ _ [.val (D.str a0), .val (D.str v3), .val (D.int v18), .no] _
      obtain ⟨v19, hv19, h⟩ := Option.bind_eq_some_iff.mp h
      obtain ⟨v20, hv20, h⟩ := Option.bind_eq_some_iff.mp h
      cases h
      refine st_ret (ev_ifE (φ := (fun z1 : Option Int => optD D.int z1)) (et_test (ev_op (ev_cb (ea_cons (ev_var rfl) ea_nil) (ty_str hv19)) (ev_var rfl) d_eqS)) hv20 ?k21 ?k22) rfl
      case k21 =>
        intro hc hb
        cases hb
        refine (ev_var rfl)
      case k22 =>
        intro hc hb
        cases hb
        refine ev_non
def F_common (a0 : Int) (a1 : Int) : Option Int :=
  (whL (σ := Int × Int) (fun s5 => some ((decide (s5.2 ≠ (0 : Int))))) (fun s5 => (pyMod s5.1 s5.2).bind fun v8 =>
  some ((s5.2, v8))) fuel ((a0, a1))).bind fun s7 =>
  some (((s7.1).natAbs : Int))
def M_common : List Nat := []
def R_common (ds : List D) (x : Res) : Prop := ∃ (a0 : Int) (a1 : Int) (r : Int), F_common a0 a1 = some r ∧ ds = [D.int a0, D.int a1] ∧ x = .v (D.int r)
theorem len_common : ∀ (vs : List V) (H : Hp) (Q : VK) (E : XK), spF K R_common vs H Q E → vs.length = 2 := spF_len (by rintro _ _ ⟨_, _, _, _, rfl, _⟩; rfl)
theorem p_common : ∀ ds x, R_common ds x → Dm.St K M_common (t_common K) (ds.map Slot.val ++ List.replicate (N_common.length - ds.length) .no) (RetF x) := by
  rintro _ _ ⟨a0, a1, r, h, rfl, rfl⟩
  show Dm.St K _ _ [.val (D.int a0), .val (D.int a1)] _
  unfold F_common at h
  obtain ⟨s7, hs7, h⟩ := Option.bind_eq_some_iff.mp h
  refine q (st_whL (J := fun s5 : Int × Int => [.val (D.int s5.1), .val (D.int s5.2)]) hs7 (.same (.same .nil)) ?kc3 ?kb1 ?kn2)
  case kb1 =>
    intro s5 s' hcond hb
    obtain ⟨v8, hv8, hb⟩ := Option.bind_eq_some_iff.mp hb
    refine st_par (ea_cons (ev_var rfl) (ea_cons (ev_op (ev_var rfl) (ev_var rfl) (ty_mod hv8)) ea_nil)) ?_
    cases hb
    exact (.same (.same .nil))
  case kc3 =>
    intro s5 b hb
    cases hb
    refine (et_test (ev_op (ev_var rfl) ev_int d_neI))
  case kn2 =>
    show Dm.St K _ _ [.val (D.int s7.1), .val (D.int s7.2)] _
    cases h
    refine st_ret (ev_cb (ea_cons (ev_var rfl) ea_nil) d_abs) rfl
def F_is_pattern (a0 : Str) : Option Bool :=
  (pyLenS a0).bind fun v1 =>
  (if (decide ((0 : Int) < v1) && decide (v1 ≤ (6 : Int))) = true then (lcM (fun x2 => some true) (fun x2 => (pySgIn x2 (("01" : Str))).bind fun v3 =>
  some v3) (sgs a0)).bind fun l4 =>
  (if (l4.all id) = true then (pySgIn (("1" : Str)) a0).bind fun v6 =>
  some v6 else some false).bind fun v7 =>
  some v7 else some false).bind fun v9 =>
  some v9
def M_is_pattern : List Nat := []
def R_is_pattern (ds : List D) (x : Res) : Prop := ∃ (a0 : Str) (r : Bool), F_is_pattern a0 = some r ∧ ds = [D.str a0] ∧ x = .v (D.bl r)
theorem len_is_pattern : ∀ (vs : List V) (H : Hp) (Q : VK) (E : XK), spF K R_is_pattern vs H Q E → vs.length = 1 := spF_len (by rintro _ _ ⟨_, _, _, rfl, _⟩; rfl)
theorem p_is_pattern : ∀ ds x, R_is_pattern ds x → Dm.St K M_is_pattern (t_is_pattern K) (ds.map Slot.val ++ List.replicate (N_is_pattern.length - ds.length) .no) (RetF x) := by
  rintro _ _ ⟨a0, r, h, rfl, rfl⟩
  show Dm.St K _ _ [.val (D.str a0), .no] _
  unfold F_is_pattern at h
  obtain ⟨v1, hv1, h⟩ := Option.bind_eq_some_iff.mp h
  obtain ⟨v9, hv9, h⟩ := Option.bind_eq_some_iff.mp h
  cases h
  refine st_ret (ev_andO (ev_chain ev_int (ev_cb (ea_cons (ev_var rfl) ea_nil) (ty_lenS hv1)) d_lt fun _ => ⟨ev_int, d_le⟩) hv9 ?k10) rfl
  case k10 =>
    intro hc hb
    obtain ⟨l4, hl4, hb⟩ := Option.bind_eq_some_iff.mp hb
    obtain ⟨v7, hv7, hb⟩ := Option.bind_eq_some_iff.mp hb
    cases hb
    refine (ev_andO (ev_cb (ea_cons (ev_fzT (ew_lcT (φ := D.str) (ψ := D.bl) (it_anyS (ev_var rfl)) hl4 (fun _ => trivial) rfl ?k5)) ea_nil) d_all) hv7 ?k8)
    case k5 =>
      intro x2 hx
      refine turn1 (e' := _) (gd_name (by decide)) ?_ ?_
      · intro b hb
        cases hb
        refine et_yes
      · intro y hc hb
        obtain ⟨v3, hv3, hb⟩ := Option.bind_eq_some_iff.mp hb
        cases hb
        refine (ev_op (ev_var rfl) ev_str (ty_inG hv3))
    case k8 =>
      intro hc hb
      obtain ⟨v6, hv6, hb⟩ := Option.bind_eq_some_iff.mp hb
      cases hb
      refine (ev_op ev_str (ev_var rfl) (ty_inG hv6))
def F_GroveReader___init__  : Option ((Unit × O_GroveReader)) :=
  some ((), (⟨(none : Option ((Int × Int))), ([] : List (Str × ((Int × Int × Int × Str × Int)))), ([] : List (Str × ((Int × Int × Int))))⟩ : O_GroveReader))
def M_GroveReader___init__ : List Nat := [0]
def R_GroveReader___init__ (C_GroveReader : Addr) (o : OD) (ds : List D) (x : Res) (o' : OD) : Prop := ∃ (r : Unit) (s : O_GroveReader), F_GroveReader___init__ = some (r, s) ∧ o = OD.obj C_GroveReader [] [] ∧ ds = [] ∧ x = .v (D.non) ∧ o' = oO_GroveReader C_GroveReader s
theorem len_GroveReader___init__ {C_GroveReader : Addr} : ∀ (vs : List V) (H : Hp) (Q : VK) (E : XK), spO K (R_GroveReader___init__ C_GroveReader) vs H Q E → vs.length = 1 := spO_len (by rintro _ _ _ _ ⟨_, _, _, rfl, rfl, _⟩; rfl)
theorem p_GroveReader___init__ {C_GroveReader : Addr} (k_GroveReader : CK_GroveReader K C_GroveReader) : ∀ o ds x o', R_GroveReader___init__ C_GroveReader o ds x o' → Dm.St K M_GroveReader___init__ (t_GroveReader___init__ K) (.own o :: (ds.map Slot.val ++ List.replicate (N_GroveReader___init__.length - (ds.length + 1)) .no)) (RetO x o') := by
  rintro _ _ _ _ ⟨r, s, h, rfl, rfl, rfl, rfl⟩
  show Dm.St K _ _ [.own (OD.obj C_GroveReader [] [])] _
  unfold F_GroveReader___init__ at h
  refine q (st_fldNew (M' := []) (ew_val ev_non) (by decide) (by decide) (pl_var rfl) rfl rfl k_GroveReader.cls k_GroveReader.n_own_head (by decide) (by decide +kernel) ?_)
  show Dm.St K _ _ [.own (OD.obj C_GroveReader [("own_head" : Str)] [.val (optD (fun z1 : (Int × Int) => D.tup [D.int z1.1, D.int z1.2]) ((none : Option ((Int × Int)))))])] _
  refine q (st_fldNew (M' := []) (ew_is ew_dNew (by rfl)) (by decide) (by decide) (pl_var rfl) rfl rfl k_GroveReader.cls k_GroveReader.n_own_palms (by decide) (by decide +kernel) ?_)
  show Dm.St K _ _ [.own (OD.obj C_GroveReader [("own_head" : Str), ("own_palms" : Str)] [.val (optD (fun z1 : (Int × Int) => D.tup [D.int z1.1, D.int z1.2]) ((none : Option ((Int × Int))))), oM (Sum.inr : Str → Key) (fun z1 : (Int × Int × Int × Str × Int) => D.tup [D.int z1.1, D.int z1.2.1, D.int z1.2.2.1, D.str z1.2.2.2.1, D.int z1.2.2.2.2]) (([] : List (Str × ((Int × Int × Int × Str × Int)))))])] _
  refine st_fldNew (M' := []) (ew_is ew_dNew (by rfl)) (by decide) (by decide) (pl_var rfl) rfl rfl k_GroveReader.cls k_GroveReader.n_own_males (by decide) (by decide +kernel) ?_
  cases h
  exact ⟨rfl, rfl⟩
def F_Grove_text (a0 : O_Grove) : Option Str :=
  some a0.own_text
def M_Grove_text : List Nat := []
def R_Grove_text (C_Grove : Addr) (ds : List D) (x : Res) : Prop := ∃ (a0 : O_Grove) (r : Str), F_Grove_text a0 = some r ∧ ds = [dO_Grove C_Grove a0] ∧ x = .v (D.str r)
theorem len_Grove_text {C_Grove : Addr} : ∀ (vs : List V) (H : Hp) (Q : VK) (E : XK), spF K (R_Grove_text C_Grove) vs H Q E → vs.length = 1 := spF_len (by rintro _ _ ⟨_, _, _, rfl, _⟩; rfl)
theorem p_Grove_text {C_Grove : Addr} (k_Grove : CK_Grove K C_Grove) : ∀ ds x, R_Grove_text C_Grove ds x → Dm.St K M_Grove_text (t_Grove_text K) (ds.map Slot.val ++ List.replicate (N_Grove_text.length - ds.length) .no) (RetF x) := by
  rintro _ _ ⟨a0, r, h, rfl, rfl⟩
  show Dm.St K _ _ [.val (dO_Grove C_Grove a0)] _
  unfold F_Grove_text at h
  cases h
  refine st_ret (ev_fldS (ev_var rfl) (by rfl) k_Grove.cls k_Grove.n_own_text) rfl
def F_Grove_turns (a0 : O_Grove) : Option Int :=
  (a0.own_head).bind fun u1 =>
  some u1.1
def M_Grove_turns : List Nat := []
def R_Grove_turns (C_Grove : Addr) (ds : List D) (x : Res) : Prop := ∃ (a0 : O_Grove) (r : Int), F_Grove_turns a0 = some r ∧ ds = [dO_Grove C_Grove a0] ∧ x = .v (D.int r)
theorem len_Grove_turns {C_Grove : Addr} : ∀ (vs : List V) (H : Hp) (Q : VK) (E : XK), spF K (R_Grove_turns C_Grove) vs H Q E → vs.length = 1 := spF_len (by rintro _ _ ⟨_, _, _, rfl, _⟩; rfl)
theorem p_Grove_turns {C_Grove : Addr} (k_Grove : CK_Grove K C_Grove) : ∀ ds x, R_Grove_turns C_Grove ds x → Dm.St K M_Grove_turns (t_Grove_turns K) (ds.map Slot.val ++ List.replicate (N_Grove_turns.length - ds.length) .no) (RetF x) := by
  rintro _ _ ⟨a0, r, h, rfl, rfl⟩
  show Dm.St K _ _ [.val (dO_Grove C_Grove a0)] _
  unfold F_Grove_turns at h
  obtain ⟨u1, hu1, h⟩ := Option.bind_eq_some_iff.mp h
  cases h
  refine st_ret (ev_op (ev_someO (φ := (fun z1 : (Int × Int) => D.tup [D.int z1.1, D.int z1.2])) (ev_fldS (ev_var rfl) (by rfl) k_Grove.cls k_Grove.n_own_head) hu1) ev_int (d_ixT (by rfl))) rfl
def F_Grove_hands (a0 : O_Grove) : Option Int :=
  (a0.own_head).bind fun u1 =>
  some u1.2
def M_Grove_hands : List Nat := []
def R_Grove_hands (C_Grove : Addr) (ds : List D) (x : Res) : Prop := ∃ (a0 : O_Grove) (r : Int), F_Grove_hands a0 = some r ∧ ds = [dO_Grove C_Grove a0] ∧ x = .v (D.int r)
theorem len_Grove_hands {C_Grove : Addr} : ∀ (vs : List V) (H : Hp) (Q : VK) (E : XK), spF K (R_Grove_hands C_Grove) vs H Q E → vs.length = 1 := spF_len (by rintro _ _ ⟨_, _, _, rfl, _⟩; rfl)
theorem p_Grove_hands {C_Grove : Addr} (k_Grove : CK_Grove K C_Grove) : ∀ ds x, R_Grove_hands C_Grove ds x → Dm.St K M_Grove_hands (t_Grove_hands K) (ds.map Slot.val ++ List.replicate (N_Grove_hands.length - ds.length) .no) (RetF x) := by
  rintro _ _ ⟨a0, r, h, rfl, rfl⟩
  show Dm.St K _ _ [.val (dO_Grove C_Grove a0)] _
  unfold F_Grove_hands at h
  obtain ⟨u1, hu1, h⟩ := Option.bind_eq_some_iff.mp h
  cases h
  refine st_ret (ev_op (ev_someO (φ := (fun z1 : (Int × Int) => D.tup [D.int z1.1, D.int z1.2])) (ev_fldS (ev_var rfl) (by rfl) k_Grove.cls k_Grove.n_own_head) hu1) ev_int (d_ixT (by rfl))) rfl
def F_Grove_palms (a0 : O_Grove) : Option (List ((Str × Int × Int × Int × Str × Int))) :=
  (lcM (fun x1 => some true) (fun x1 => (mGet a0.own_palms x1).bind fun v2 =>
  some ((x1, v2.1, v2.2.1, v2.2.2.1, v2.2.2.2.1, v2.2.2.2.2))) (a0.own_palms.map Prod.fst)).bind fun l3 =>
  some l3
def M_Grove_palms : List Nat := []
def R_Grove_palms (C_Grove : Addr) (ds : List D) (x : Res) : Prop := ∃ (a0 : O_Grove) (r : List ((Str × Int × Int × Int × Str × Int))), F_Grove_palms a0 = some r ∧ ds = [dO_Grove C_Grove a0] ∧ x = .v (D.tup (r.map (fun z1 : (Str × Int × Int × Int × Str × Int) => D.tup [D.str z1.1, D.int z1.2.1, D.int z1.2.2.1, D.int z1.2.2.2.1, D.str z1.2.2.2.2.1, D.int z1.2.2.2.2.2])))
theorem len_Grove_palms {C_Grove : Addr} : ∀ (vs : List V) (H : Hp) (Q : VK) (E : XK), spF K (R_Grove_palms C_Grove) vs H Q E → vs.length = 1 := spF_len (by rintro _ _ ⟨_, _, _, rfl, _⟩; rfl)
theorem p_Grove_palms {C_Grove : Addr} (k_Grove : CK_Grove K C_Grove) : ∀ ds x, R_Grove_palms C_Grove ds x → Dm.St K M_Grove_palms (t_Grove_palms K) (ds.map Slot.val ++ List.replicate (N_Grove_palms.length - ds.length) .no) (RetF x) := by
  rintro _ _ ⟨a0, r, h, rfl, rfl⟩
  show Dm.St K _ _ [.val (dO_Grove C_Grove a0), .no] _
  unfold F_Grove_palms at h
  obtain ⟨l3, hl3, h⟩ := Option.bind_eq_some_iff.mp h
  cases h
  refine st_ret (ev_cb (ea_cons (ev_fzT (ew_lock (i := 0) (j := 2) rfl rfl (all_flat2 (φ := (fun z1 : (Int × Int × Int × Str × Int) => D.tup [D.int z1.1, D.int z1.2.1, D.int z1.2.2.1, D.str z1.2.2.2.1, D.int z1.2.2.2.2])) (fun _ => rfl)) (fun _ => rfl) (ew_lcT (φ := D.str) (ψ := (fun z1 : (Str × Int × Int × Int × Str × Int) => D.tup [D.str z1.1, D.int z1.2.1, D.int z1.2.2.1, D.int z1.2.2.2.1, D.str z1.2.2.2.2.1, D.int z1.2.2.2.2.2])) (it_keysM (κ := (Sum.inr : Str → Key)) (φ := (fun z1 : (Int × Int × Int × Str × Int) => D.tup [D.int z1.1, D.int z1.2.1, D.int z1.2.2.1, D.str z1.2.2.2.1, D.int z1.2.2.2.2])) (χ := D.str) (fun _ => rfl) (ev_fldS (ev_var rfl) (by rfl) k_Grove.cls k_Grove.n_own_palms)) hl3 (fun _ => trivial) rfl ?k4))) ea_nil) d_tupL) rfl
  case k4 =>
    intro x1 hx
    refine turn1 (e' := _) (gd_name (by decide)) ?_ ?_
    · intro b hb
      cases hb
      refine et_yes
    · intro y hc hb
      obtain ⟨v2, hv2, hb⟩ := Option.bind_eq_some_iff.mp hb
      cases hb
      refine (ev_is (ev_tup (ea_cons (ev_var rfl) (ea_starT (ev_op (ev_fldS (ev_var rfl) (by rfl) k_Grove.cls k_Grove.n_own_palms) (ev_var rfl) (ty_ixML (κ := (Sum.inr : Str → Key)) (φ := (fun z1 : (Int × Int × Int × Str × Int) => D.tup [D.int z1.1, D.int z1.2.1, D.int z1.2.2.1, D.str z1.2.2.2.1, D.int z1.2.2.2.2])) inS hv2)) ea_nil)) (Nat.le_of_ble_eq_true rfl)) (by rfl))
def F_Grove_males (a0 : O_Grove) : Option (List ((Str × Int × Int × Int))) :=
  (lcM (fun x1 => some true) (fun x1 => (mGet a0.own_males x1).bind fun v2 =>
  some ((x1, v2.1, v2.2.1, v2.2.2))) (a0.own_males.map Prod.fst)).bind fun l3 =>
  some l3
def M_Grove_males : List Nat := []
def R_Grove_males (C_Grove : Addr) (ds : List D) (x : Res) : Prop := ∃ (a0 : O_Grove) (r : List ((Str × Int × Int × Int))), F_Grove_males a0 = some r ∧ ds = [dO_Grove C_Grove a0] ∧ x = .v (D.tup (r.map (fun z1 : (Str × Int × Int × Int) => D.tup [D.str z1.1, D.int z1.2.1, D.int z1.2.2.1, D.int z1.2.2.2])))
theorem len_Grove_males {C_Grove : Addr} : ∀ (vs : List V) (H : Hp) (Q : VK) (E : XK), spF K (R_Grove_males C_Grove) vs H Q E → vs.length = 1 := spF_len (by rintro _ _ ⟨_, _, _, rfl, _⟩; rfl)
theorem p_Grove_males {C_Grove : Addr} (k_Grove : CK_Grove K C_Grove) : ∀ ds x, R_Grove_males C_Grove ds x → Dm.St K M_Grove_males (t_Grove_males K) (ds.map Slot.val ++ List.replicate (N_Grove_males.length - ds.length) .no) (RetF x) := by
  rintro _ _ ⟨a0, r, h, rfl, rfl⟩
  show Dm.St K _ _ [.val (dO_Grove C_Grove a0), .no] _
  unfold F_Grove_males at h
  obtain ⟨l3, hl3, h⟩ := Option.bind_eq_some_iff.mp h
  cases h
  refine st_ret (ev_cb (ea_cons (ev_fzT (ew_lock (i := 0) (j := 3) rfl rfl (all_flat2 (φ := (fun z1 : (Int × Int × Int) => D.tup [D.int z1.1, D.int z1.2.1, D.int z1.2.2])) (fun _ => rfl)) (fun _ => rfl) (ew_lcT (φ := D.str) (ψ := (fun z1 : (Str × Int × Int × Int) => D.tup [D.str z1.1, D.int z1.2.1, D.int z1.2.2.1, D.int z1.2.2.2])) (it_keysM (κ := (Sum.inr : Str → Key)) (φ := (fun z1 : (Int × Int × Int) => D.tup [D.int z1.1, D.int z1.2.1, D.int z1.2.2])) (χ := D.str) (fun _ => rfl) (ev_fldS (ev_var rfl) (by rfl) k_Grove.cls k_Grove.n_own_males)) hl3 (fun _ => trivial) rfl ?k4))) ea_nil) d_tupL) rfl
  case k4 =>
    intro x1 hx
    refine turn1 (e' := _) (gd_name (by decide)) ?_ ?_
    · intro b hb
      cases hb
      refine et_yes
    · intro y hc hb
      obtain ⟨v2, hv2, hb⟩ := Option.bind_eq_some_iff.mp hb
      cases hb
      refine (ev_is (ev_tup (ea_cons (ev_var rfl) (ea_starT (ev_op (ev_fldS (ev_var rfl) (by rfl) k_Grove.cls k_Grove.n_own_males) (ev_var rfl) (ty_ixML (κ := (Sum.inr : Str → Key)) (φ := (fun z1 : (Int × Int × Int) => D.tup [D.int z1.1, D.int z1.2.1, D.int z1.2.2])) inS hv2)) ea_nil)) (Nat.le_of_ble_eq_true rfl)) (by rfl))
def F_Grove_palm_names (a0 : O_Grove) : Option (List Str) :=
  some ((a0.own_palms.map Prod.fst))
def M_Grove_palm_names : List Nat := []
def R_Grove_palm_names (C_Grove : Addr) (ds : List D) (x : Res) : Prop := ∃ (a0 : O_Grove) (r : List Str), F_Grove_palm_names a0 = some r ∧ ds = [dO_Grove C_Grove a0] ∧ x = .v (D.lst (r.map D.str))
theorem len_Grove_palm_names {C_Grove : Addr} : ∀ (vs : List V) (H : Hp) (Q : VK) (E : XK), spF K (R_Grove_palm_names C_Grove) vs H Q E → vs.length = 1 := spF_len (by rintro _ _ ⟨_, _, _, rfl, _⟩; rfl)
theorem p_Grove_palm_names {C_Grove : Addr} (k_Grove : CK_Grove K C_Grove) : ∀ ds x, R_Grove_palm_names C_Grove ds x → Dm.St K M_Grove_palm_names (t_Grove_palm_names K) (ds.map Slot.val ++ List.replicate (N_Grove_palm_names.length - ds.length) .no) (RetF x) := by
  rintro _ _ ⟨a0, r, h, rfl, rfl⟩
  show Dm.St K _ _ [.val (dO_Grove C_Grove a0)] _
  unfold F_Grove_palm_names at h
  cases h
  refine st_ret (ev_cb (ea_cons (ev_fldS (ev_var rfl) (by rfl) k_Grove.cls k_Grove.n_own_palms) ea_nil) (ty_listM (κ := (Sum.inr : Str → Key)) (φ := (fun z1 : (Int × Int × Int × Str × Int) => D.tup [D.int z1.1, D.int z1.2.1, D.int z1.2.2.1, D.str z1.2.2.2.1, D.int z1.2.2.2.2])) fun _ => rfl)) rfl
def F_Grove_years_of (a0 : O_Grove) (a1 : Str) : Option Str :=
  (mGet a0.own_palms a1).bind fun v1 =>
  some v1.2.2.2.1
def M_Grove_years_of : List Nat := []
def R_Grove_years_of (C_Grove : Addr) (ds : List D) (x : Res) : Prop := ∃ (a0 : O_Grove) (a1 : Str) (r : Str), F_Grove_years_of a0 a1 = some r ∧ ds = [dO_Grove C_Grove a0, D.str a1] ∧ x = .v (D.str r)
theorem len_Grove_years_of {C_Grove : Addr} : ∀ (vs : List V) (H : Hp) (Q : VK) (E : XK), spF K (R_Grove_years_of C_Grove) vs H Q E → vs.length = 2 := spF_len (by rintro _ _ ⟨_, _, _, _, rfl, _⟩; rfl)
theorem p_Grove_years_of {C_Grove : Addr} (k_Grove : CK_Grove K C_Grove) : ∀ ds x, R_Grove_years_of C_Grove ds x → Dm.St K M_Grove_years_of (t_Grove_years_of K) (ds.map Slot.val ++ List.replicate (N_Grove_years_of.length - ds.length) .no) (RetF x) := by
  rintro _ _ ⟨a0, a1, r, h, rfl, rfl⟩
  show Dm.St K _ _ [.val (dO_Grove C_Grove a0), .val (D.str a1)] _
  unfold F_Grove_years_of at h
  obtain ⟨v1, hv1, h⟩ := Option.bind_eq_some_iff.mp h
  cases h
  refine st_ret (ev_op (ev_op (ev_fldS (ev_var rfl) (by rfl) k_Grove.cls k_Grove.n_own_palms) (ev_var rfl) (ty_ixM (κ := (Sum.inr : Str → Key)) (φ := (fun z1 : (Int × Int × Int × Str × Int) => D.tup [D.int z1.1, D.int z1.2.1, D.int z1.2.2.1, D.str z1.2.2.2.1, D.int z1.2.2.2.2])) inS hv1)) ev_int (d_ixT (by rfl))) rfl
def F_Grove_dates_of (a0 : O_Grove) (a1 : Str) : Option Int :=
  (mGet a0.own_palms a1).bind fun v1 =>
  some v1.2.2.2.2
def M_Grove_dates_of : List Nat := []
def R_Grove_dates_of (C_Grove : Addr) (ds : List D) (x : Res) : Prop := ∃ (a0 : O_Grove) (a1 : Str) (r : Int), F_Grove_dates_of a0 a1 = some r ∧ ds = [dO_Grove C_Grove a0, D.str a1] ∧ x = .v (D.int r)
theorem len_Grove_dates_of {C_Grove : Addr} : ∀ (vs : List V) (H : Hp) (Q : VK) (E : XK), spF K (R_Grove_dates_of C_Grove) vs H Q E → vs.length = 2 := spF_len (by rintro _ _ ⟨_, _, _, _, rfl, _⟩; rfl)
theorem p_Grove_dates_of {C_Grove : Addr} (k_Grove : CK_Grove K C_Grove) : ∀ ds x, R_Grove_dates_of C_Grove ds x → Dm.St K M_Grove_dates_of (t_Grove_dates_of K) (ds.map Slot.val ++ List.replicate (N_Grove_dates_of.length - ds.length) .no) (RetF x) := by
  rintro _ _ ⟨a0, a1, r, h, rfl, rfl⟩
  show Dm.St K _ _ [.val (dO_Grove C_Grove a0), .val (D.str a1)] _
  unfold F_Grove_dates_of at h
  obtain ⟨v1, hv1, h⟩ := Option.bind_eq_some_iff.mp h
  cases h
  refine st_ret (ev_op (ev_op (ev_fldS (ev_var rfl) (by rfl) k_Grove.cls k_Grove.n_own_palms) (ev_var rfl) (ty_ixM (κ := (Sum.inr : Str → Key)) (φ := (fun z1 : (Int × Int × Int × Str × Int) => D.tup [D.int z1.1, D.int z1.2.1, D.int z1.2.2.1, D.str z1.2.2.2.1, D.int z1.2.2.2.2])) inS hv1)) ev_int (d_ixT (by rfl))) rfl
def F_check_grove (a0 : O_Grove) : Option Unit :=
  if (!true) = true then none else some ()
def M_check_grove : List Nat := []
def R_check_grove (C_Grove : Addr) (ds : List D) (x : Res) : Prop := ∃ (a0 : O_Grove) (r : Unit), F_check_grove a0 = some r ∧ ds = [dO_Grove C_Grove a0] ∧ x = .v (D.non)
theorem len_check_grove {C_Grove : Addr} : ∀ (vs : List V) (H : Hp) (Q : VK) (E : XK), spF K (R_check_grove C_Grove) vs H Q E → vs.length = 1 := spF_len (by rintro _ _ ⟨_, _, _, rfl, _⟩; rfl)
theorem p_check_grove {C_Grove : Addr} (k_Grove : CK_Grove K C_Grove) : ∀ ds x, R_check_grove C_Grove ds x → Dm.St K M_check_grove (t_check_grove K C_Grove) (ds.map Slot.val ++ List.replicate (N_check_grove.length - ds.length) .no) (RetF x) := by
  rintro _ _ ⟨a0, r, h, rfl, rfl⟩
  show Dm.St K _ _ [.val (dO_Grove C_Grove a0)] _
  unfold F_check_grove at h
  refine st_if (et_not (et_B (ev_cb (ea_cons (ev_var rfl) (ea_cons ev_adr ea_nil)) (d_isiC k_Grove.isi)))) (fun hc => ?kt1) (fun hc => ?kf2)
  case kt1 =>
    rw [if_pos hc] at h
    cases h
  case kf2 =>
    rw [if_neg (by rw [hc]; exact Bool.false_ne_true)] at h
    refine st_next ?_
    cases h
    exact rfl
def F_bearing_by (a0 : (Int × Int)) (a1 : List Int) (a2 : Int) : Option Int :=
  (lcM (fun x1 => (pyMod ((a2 - x1)) a0.2).bind fun v2 =>
  some ((decide (a0.1 ≤ v2)))) (fun x1 => some ((1 : Int))) a1).bind fun l3 =>
  some ((l3.length : Int))
def M_bearing_by : List Nat := []
def R_bearing_by (ds : List D) (x : Res) : Prop := ∃ (a0 : (Int × Int)) (a1 : List Int) (a2 : Int) (r : Int), F_bearing_by a0 a1 a2 = some r ∧ ds = [D.tup [D.int a0.1, D.int a0.2], D.tup (a1.map D.int), D.int a2] ∧ x = .v (D.int r)
theorem len_bearing_by : ∀ (vs : List V) (H : Hp) (Q : VK) (E : XK), spF K R_bearing_by vs H Q E → vs.length = 3 := spF_len (by rintro _ _ ⟨_, _, _, _, _, rfl, _⟩; rfl)
theorem p_bearing_by : ∀ ds x, R_bearing_by ds x → Dm.St K M_bearing_by (t_bearing_by K) (ds.map Slot.val ++ List.replicate (N_bearing_by.length - ds.length) .no) (RetF x) := by
  rintro _ _ ⟨a0, a1, a2, r, h, rfl, rfl⟩
  show Dm.St K _ _ [.val (D.tup [D.int a0.1, D.int a0.2]), .val (D.tup (a1.map D.int)), .val (D.int a2), .no, .no, .no] _
  unfold F_bearing_by at h
  refine q (st_asgG (vs := List.range 60) (ev_var rfl) (gd_tupU (gs_cons (gd_name (by decide)) (gs_cons (gd_name (by decide)) gs_nil)) rfl) ?_)
  show Dm.St K _ _ [.val (D.tup [D.int a0.1, D.int a0.2]), .val (D.tup (a1.map D.int)), .val (D.int a2), .val (D.int a0.1), .val (D.int a0.2), .no] _
  obtain ⟨l3, hl3, h⟩ := Option.bind_eq_some_iff.mp h
  cases h
  refine st_ret (ev_cb (ea_cons (ev_fzT (ew_lcT (φ := D.int) (ψ := D.int) (it_anyT (ev_var rfl)) hl3 (fun _ => trivial) rfl ?k4)) ea_nil) (ty_lenL (φ := D.int))) rfl
  case k4 =>
    intro x1 hx
    refine turn1 (e' := _) (gd_name (by decide)) ?_ ?_
    · intro b hb
      obtain ⟨v2, hv2, hb⟩ := Option.bind_eq_some_iff.mp hb
      cases hb
      refine (et_test (ev_op (ev_op (ev_op (ev_var rfl) (ev_var rfl) d_sub) (ev_var rfl) (ty_mod hv2)) (ev_var rfl) d_ge))
    · intro y hc hb
      cases hb
      refine ev_int
def F_even_plants (a0 : (Int × Int)) (a1 : Int) : Option (List Int) :=
  (pyRng a1).bind fun l1 =>
  (lcM (fun x2 => some true) (fun x2 => (pyMul x2 a0.2).bind fun v3 =>
  (pyDiv v3 a1).bind fun v4 =>
  some v4) l1).bind fun l5 =>
  some l5
def M_even_plants : List Nat := []
def R_even_plants (ds : List D) (x : Res) : Prop := ∃ (a0 : (Int × Int)) (a1 : Int) (r : List Int), F_even_plants a0 a1 = some r ∧ ds = [D.tup [D.int a0.1, D.int a0.2], D.int a1] ∧ x = .v (D.tup (r.map D.int))
theorem len_even_plants : ∀ (vs : List V) (H : Hp) (Q : VK) (E : XK), spF K R_even_plants vs H Q E → vs.length = 2 := spF_len (by rintro _ _ ⟨_, _, _, _, rfl, _⟩; rfl)
theorem p_even_plants : ∀ ds x, R_even_plants ds x → Dm.St K M_even_plants (t_even_plants K) (ds.map Slot.val ++ List.replicate (N_even_plants.length - ds.length) .no) (RetF x) := by
  rintro _ _ ⟨a0, a1, r, h, rfl, rfl⟩
  show Dm.St K _ _ [.val (D.tup [D.int a0.1, D.int a0.2]), .val (D.int a1), .no] _
  unfold F_even_plants at h
  obtain ⟨l1, hl1, h⟩ := Option.bind_eq_some_iff.mp h
  obtain ⟨l5, hl5, h⟩ := Option.bind_eq_some_iff.mp h
  cases h
  refine st_ret (ev_cb (ea_cons (ev_fzT (ew_lcT (φ := D.int) (ψ := D.int) (it_rng (ea_cons (ev_var rfl) ea_nil) hl1) hl5 (fun _ => trivial) rfl ?k6)) ea_nil) d_tupL) rfl
  case k6 =>
    intro x2 hx
    refine turn1 (e' := _) (gd_name (by decide)) ?_ ?_
    · intro b hb
      cases hb
      refine et_yes
    · intro y hc hb
      obtain ⟨v3, hv3, hb⟩ := Option.bind_eq_some_iff.mp hb
      obtain ⟨v4, hv4, hb⟩ := Option.bind_eq_some_iff.mp hb
      cases hb
      refine (ev_op (ev_op (ev_var rfl) (ev_op (ev_var rfl) ev_int (d_ixT (by rfl))) (ty_mul hv3)) (ev_var rfl) (ty_div hv4))
def F_most_always (a0 : (Int × Int)) (a1 : Int) : Option Int :=
  (pyMul a1 ((a0.2 - a0.1))).bind fun v1 =>
  (pyDiv v1 a0.2).bind fun v2 =>
  some v2
def M_most_always : List Nat := []
def R_most_always (ds : List D) (x : Res) : Prop := ∃ (a0 : (Int × Int)) (a1 : Int) (r : Int), F_most_always a0 a1 = some r ∧ ds = [D.tup [D.int a0.1, D.int a0.2], D.int a1] ∧ x = .v (D.int r)
theorem len_most_always : ∀ (vs : List V) (H : Hp) (Q : VK) (E : XK), spF K R_most_always vs H Q E → vs.length = 2 := spF_len (by rintro _ _ ⟨_, _, _, _, rfl, _⟩; rfl)
theorem p_most_always : ∀ ds x, R_most_always ds x → Dm.St K M_most_always (t_most_always K) (ds.map Slot.val ++ List.replicate (N_most_always.length - ds.length) .no) (RetF x) := by
  rintro _ _ ⟨a0, a1, r, h, rfl, rfl⟩
  show Dm.St K _ _ [.val (D.tup [D.int a0.1, D.int a0.2]), .val (D.int a1)] _
  unfold F_most_always at h
  obtain ⟨v1, hv1, h⟩ := Option.bind_eq_some_iff.mp h
  obtain ⟨v2, hv2, h⟩ := Option.bind_eq_some_iff.mp h
  cases h
  refine st_ret (ev_op (ev_op (ev_var rfl) (ev_op (ev_op (ev_var rfl) ev_int (d_ixT (by rfl))) (ev_op (ev_var rfl) ev_int (d_ixT (by rfl))) d_sub) (ty_mul hv1)) (ev_op (ev_var rfl) ev_int (d_ixT (by rfl))) (ty_div hv2)) rfl
def F_lap_of (a0 : List Int) : Option Int :=
  (pyRng2 ((1 : Int)) (((60 : Int) + (1 : Int)))).bind fun l1 =>
  (lcM (fun x2 => (pyMod ((60 : Int)) x2).bind fun v3 =>
  some ((decide (v3 = (0 : Int))))) (fun x2 => some x2) l1).bind fun l4 =>
  (lcM (fun x6 => (lcM (fun x7 => some true) (fun x7 => (pyMod ((x7 + x6)) ((60 : Int))).bind fun v8 =>
  some ((decide (v8 ∈ a0)))) a0).bind fun l9 =>
  some ((l9.all id))) (fun x6 => some x6) l4).bind fun l11 =>
  (pyIx l11 ((0 : Int))).bind fun v13 =>
  some v13
def M_lap_of : List Nat := []
def R_lap_of (ds : List D) (x : Res) : Prop := ∃ (a0 : List Int) (r : Int), F_lap_of a0 = some r ∧ ds = [D.lst (a0.map D.int)] ∧ x = .v (D.int r)
theorem len_lap_of : ∀ (vs : List V) (H : Hp) (Q : VK) (E : XK), spF K R_lap_of vs H Q E → vs.length = 1 := spF_len (by rintro _ _ ⟨_, _, _, rfl, _⟩; rfl)
theorem p_lap_of : ∀ ds x, R_lap_of ds x → Dm.St K M_lap_of (t_lap_of K) (ds.map Slot.val ++ List.replicate (N_lap_of.length - ds.length) .no) (RetF x) := by
  rintro _ _ ⟨a0, r, h, rfl, rfl⟩
  show Dm.St K _ _ [.val (D.lst (a0.map D.int)), .no, .no, .no] _
  unfold F_lap_of at h
  obtain ⟨l1, hl1, h⟩ := Option.bind_eq_some_iff.mp h
  obtain ⟨l4, hl4, h⟩ := Option.bind_eq_some_iff.mp h
  refine q (st_asg (ev_fzT (ew_lcT (φ := D.int) (ψ := D.int) (it_rng2 (ea_cons ev_int (ea_cons (ev_op ev_int ev_int d_add) ea_nil)) hl1) hl4 (fun _ => trivial) rfl ?k5)) ?nx14)
  case k5 =>
    intro x2 hx
    refine turn1 (e' := _) (gd_name (by decide)) ?_ ?_
    · intro b hb
      obtain ⟨v3, hv3, hb⟩ := Option.bind_eq_some_iff.mp hb
      cases hb
      refine (et_test (ev_op (ev_op ev_int (ev_var rfl) (ty_mod hv3)) ev_int d_eqI))
    · intro y hc hb
      cases hb
      refine (ev_var rfl)
  case nx14 =>
    show Dm.St K _ _ [.val (D.lst (a0.map D.int)), .val (D.lst (l4.map D.int)), .no, .no] _
    obtain ⟨l11, hl11, h⟩ := Option.bind_eq_some_iff.mp h
    obtain ⟨v13, hv13, h⟩ := Option.bind_eq_some_iff.mp h
    cases h
    refine st_ret (ev_op (ev_fzT (ew_lcT (φ := D.int) (ψ := D.int) (it_anyL (ev_var rfl)) hl11 (fun _ => trivial) rfl ?k12)) ev_int (ty_ixL (φ := D.int) hv13)) rfl
    case k12 =>
      intro x6 hx
      refine turn1 (e' := _) (gd_name (by decide)) ?_ ?_
      · intro b hb
        obtain ⟨l9, hl9, hb⟩ := Option.bind_eq_some_iff.mp hb
        cases hb
        refine (et_B (ev_cb (ea_cons (ev_fzT (ew_lcT (φ := D.int) (ψ := D.bl) (it_anyL (ev_var rfl)) hl9 (fun _ => trivial) rfl ?k10)) ea_nil) d_all))
        case k10 =>
          intro x7 hx
          refine turn1 (e' := _) (gd_name (by decide)) ?_ ?_
          · intro b hb
            cases hb
            refine et_yes
          · intro y hc hb
            obtain ⟨v8, hv8, hb⟩ := Option.bind_eq_some_iff.mp hb
            cases hb
            refine (ev_op (ev_op (ev_op (ev_var rfl) (ev_var rfl) d_add) ev_int (ty_mod hv8)) (ev_var rfl) d_inI)
      · intro y hc hb
        cases hb
        refine (ev_var rfl)
def F_lots_by_size (a0 : List Str) : Option (List (List Str)) :=
  (forL (σ := (List (List Str))) (fun x6 s5 => (lcM (fun x8 => some true) (fun x8 => (pySz (x8 ++ [x6])).bind fun v9 =>
  some v9) s5).bind fun l10 =>
  (pyCat s5 l10).bind fun v12 =>
  some v12) a0 (([([] : List Str)] : List (List Str)))).bind fun s7 =>
  some ((sortLen s7))
def M_lots_by_size : List Nat := []
def R_lots_by_size (ds : List D) (x : Res) : Prop := ∃ (a0 : List Str) (r : List (List Str)), F_lots_by_size a0 = some r ∧ ds = [D.lst (a0.map D.str)] ∧ x = .v (D.lst (r.map (fun z1 : List Str => D.tup (z1.map D.str))))
theorem len_lots_by_size : ∀ (vs : List V) (H : Hp) (Q : VK) (E : XK), spF K R_lots_by_size vs H Q E → vs.length = 1 := spF_len (by rintro _ _ ⟨_, _, _, rfl, _⟩; rfl)
theorem p_lots_by_size : ∀ ds x, R_lots_by_size ds x → Dm.St K M_lots_by_size (t_lots_by_size K) (ds.map Slot.val ++ List.replicate (N_lots_by_size.length - ds.length) .no) (RetF x) := by
  rintro _ _ ⟨a0, r, h, rfl, rfl⟩
  show Dm.St K _ _ [.val (D.lst (a0.map D.str)), .no, .no, .no] _
  unfold F_lots_by_size at h
  refine q (st_asg (ev_fzT (ew_is (ew_lst (ea_cons (ev_is (ev_tup ea_nil (Nat.le_of_ble_eq_true rfl)) (by rfl)) ea_nil) (Nat.le_of_ble_eq_true rfl)) (by rfl))) ?_)
  show Dm.St K _ _ [.val (D.lst (a0.map D.str)), .val (D.lst ((([([] : List Str)] : List (List Str))).map (fun z1 : List Str => D.tup (z1.map D.str)))), .no, .no] _
  obtain ⟨s7, hs7, h⟩ := Option.bind_eq_some_iff.mp h
  refine q (st_forL (vs := List.range 60) (Mb := M_lots_by_size) (φ := D.str) (J := fun s5 : (List (List Str)) => [.val (D.lst (a0.map D.str)), .val (D.lst (s5.map (fun z1 : List Str => D.tup (z1.map D.str)))), .no, .no]) (it_anyL (ev_var rfl)) hs7 (fun _ z => z) (.same (.same (.same (.same .nil)))) (fun _ _ _ _ => trivial) ?kb1 ?kn2)
  case kb1 =>
    intro x6 hx s5 s' hb
    refine ⟨_, (gd_name (by decide)), ?_⟩
    obtain ⟨l10, hl10, hb⟩ := Option.bind_eq_some_iff.mp hb
    obtain ⟨v12, hv12, hb⟩ := Option.bind_eq_some_iff.mp hb
    refine st_asg (ev_op (ev_var rfl) (ev_fzT (ew_lcT (φ := (fun z1 : List Str => D.tup (z1.map D.str))) (ψ := (fun z1 : List Str => D.tup (z1.map D.str))) (it_anyL (ev_var rfl)) hl10 (fun _ => trivial) rfl ?k11)) (ty_addL (φ := (fun z1 : List Str => D.tup (z1.map D.str))) hv12)) ?nx13
    case k11 =>
      intro x8 hx
      refine turn1 (e' := _) (gd_name (by decide)) ?_ ?_
      · intro b hb
        cases hb
        refine et_yes
      · intro y hc hb
        obtain ⟨v9, hv9, hb⟩ := Option.bind_eq_some_iff.mp hb
        cases hb
        refine (ev_tupT (φ := D.str) (ea_starT (ev_var rfl) (ea_cons (ev_var rfl) ea_nil)) hv9 (by simp))
    case nx13 =>
      cases hb
      exact (.same (.same (.drop (.same .nil))))
  case kn2 =>
    show Dm.St K _ _ [.val (D.lst (a0.map D.str)), .val (D.lst (s7.map (fun z1 : List Str => D.tup (z1.map D.str)))), .no, .no] _
    cases h
    refine st_ret (ev_sortLenT (φ := D.str) (ea_cons (ev_var rfl) ea_nil)) rfl
def F_sums_by (a0 : List (List (List Int))) (a1 : List Int) : Option (List Int) :=
  (lcM (fun x1 => some true) (fun x1 => (pyIx x1.1 x1.2).bind fun v2 =>
  some v2) (a0.zip a1)).bind fun l3 =>
  (pyRng ((60 : Int))).bind fun l5 =>
  (lcM (fun x6 => some true) (fun x6 => (lcM (fun x7 => some true) (fun x7 => (pyIx x7 x6).bind fun v8 =>
  some v8) l3).bind fun l9 =>
  some l9.sum) l5).bind fun l11 =>
  some l11
def M_sums_by : List Nat := []
def R_sums_by (ds : List D) (x : Res) : Prop := ∃ (a0 : List (List (List Int))) (a1 : List Int) (r : List Int), F_sums_by a0 a1 = some r ∧ ds = [D.lst (a0.map (fun z2 : List (List Int) => D.lst (z2.map (fun z1 : List Int => D.lst (z1.map D.int))))), D.tup (a1.map D.int)] ∧ x = .v (D.lst (r.map D.int))
theorem len_sums_by : ∀ (vs : List V) (H : Hp) (Q : VK) (E : XK), spF K R_sums_by vs H Q E → vs.length = 2 := spF_len (by rintro _ _ ⟨_, _, _, _, rfl, _⟩; rfl)
theorem p_sums_by : ∀ ds x, R_sums_by ds x → Dm.St K M_sums_by (t_sums_by K) (ds.map Slot.val ++ List.replicate (N_sums_by.length - ds.length) .no) (RetF x) := by
  rintro _ _ ⟨a0, a1, r, h, rfl, rfl⟩
  show Dm.St K _ _ [.val (D.lst (a0.map (fun z2 : List (List Int) => D.lst (z2.map (fun z1 : List Int => D.lst (z1.map D.int)))))), .val (D.tup (a1.map D.int)), .no, .no, .no, .no] _
  unfold F_sums_by at h
  obtain ⟨l3, hl3, h⟩ := Option.bind_eq_some_iff.mp h
  refine q (st_asg (ev_fzT (ew_lcT (φ := (fun z3 : ((List (List Int)) × Int) => D.tup [D.lst (z3.1.map (fun z1 : List Int => D.lst (z1.map D.int))), D.int z3.2])) (ψ := (fun z1 : List Int => D.lst (z1.map D.int))) (it_zpT (φ := (fun z2 : List (List Int) => D.lst (z2.map (fun z1 : List Int => D.lst (z1.map D.int))))) (ψ := D.int) (ea_cons (ev_var rfl) (ea_cons (ev_var rfl) ea_nil)) (.inl rfl) (.inr rfl)) hl3 (fun _ => trivial) rfl ?k4)) ?nx13)
  case k4 =>
    intro x1 hx
    refine turn1 (e' := _) (gd_tupU (gs_cons (gd_name (by decide)) (gs_cons (gd_name (by decide)) gs_nil)) rfl) ?_ ?_
    · intro b hb
      cases hb
      refine et_yes
    · intro y hc hb
      obtain ⟨v2, hv2, hb⟩ := Option.bind_eq_some_iff.mp hb
      cases hb
      refine (ev_op (ev_var rfl) (ev_var rfl) (ty_ixL (φ := (fun z1 : List Int => D.lst (z1.map D.int))) hv2))
  case nx13 =>
    show Dm.St K _ _ [.val (D.lst (a0.map (fun z2 : List (List Int) => D.lst (z2.map (fun z1 : List Int => D.lst (z1.map D.int)))))), .val (D.tup (a1.map D.int)), .val (D.lst (l3.map (fun z1 : List Int => D.lst (z1.map D.int)))), .no, .no, .no] _
    obtain ⟨l5, hl5, h⟩ := Option.bind_eq_some_iff.mp h
    obtain ⟨l11, hl11, h⟩ := Option.bind_eq_some_iff.mp h
    cases h
    refine st_ret (ev_fzT (ew_lcT (φ := D.int) (ψ := D.int) (it_rng (ea_cons ev_int ea_nil) hl5) hl11 (fun _ => trivial) rfl ?k12)) rfl
    case k12 =>
      intro x6 hx
      refine turn1 (e' := _) (gd_name (by decide)) ?_ ?_
      · intro b hb
        cases hb
        refine et_yes
      · intro y hc hb
        obtain ⟨l9, hl9, hb⟩ := Option.bind_eq_some_iff.mp hb
        cases hb
        refine (ev_cb (ea_cons (ev_fzT (ew_lcT (φ := (fun z1 : List Int => D.lst (z1.map D.int))) (ψ := D.int) (it_anyL (ev_var rfl)) hl9 (fun _ => trivial) rfl ?k10)) ea_nil) d_sum)
        case k10 =>
          intro x7 hx
          refine turn1 (e' := _) (gd_name (by decide)) ?_ ?_
          · intro b hb
            cases hb
            refine et_yes
          · intro y hc hb
            obtain ⟨v8, hv8, hb⟩ := Option.bind_eq_some_iff.mp hb
            cases hb
            refine (ev_op (ev_var rfl) (ev_var rfl) (ty_ixL (φ := D.int) hv8))
def F__law_pot (a0 : List Int) (a1 : Int) : Option (List Int) :=
  (if (decide (a1 < (a0.length : Int))) = true then (pyIx a0 a1).bind fun v1 =>
  some v1 else (pyMod (((cutL a0 none (some ((1 : Int))))).sum) ((1000003 : Int))).bind fun v2 =>
  (pyMul ((13144 : Int)) a1).bind fun v3 =>
  some (((v2 + v3) + (11194 : Int)))).bind fun v4 =>
  (pyPow ((10 : Int)) ((60 : Int))).bind fun v7 =>
  (pyPow v7 ((5 : Int))).bind fun v8 =>
  (pyMod (((v4).natAbs : Int)) v8).bind fun v9 =>
  (pyPow ((10 : Int)) ((18 : Int))).bind fun v10 =>
  (pyMul v9 ((if (decide (v10 ≤ ((v4).natAbs : Int))) = true then 1 else 0))).bind fun v11 =>
  (pyMod v4 ((2305843009213693951 : Int))).bind fun v12 =>
  (pyMul v12 ((97096 : Int))).bind fun v13 =>
  (pyMul ((10856 : Int)) a1).bind fun v14 =>
  (pyMul v14 a1).bind fun v15 =>
  (pyMod (((v13 + v15) + (4294 : Int))) ((2305843009213693921 : Int))).bind fun v16 =>
  some (([v11, v16, (0 : Int)] : List Int))
def M__law_pot : List Nat := []
def R__law_pot (ds : List D) (x : Res) : Prop := ∃ (a0 : List Int) (a1 : Int) (r : List Int), F__law_pot a0 a1 = some r ∧ ds = [D.scr a0, D.int a1] ∧ x = .w (odL D.int r)
theorem len__law_pot : ∀ (vs : List V) (H : Hp) (Q : VK) (E : XK), spF K R__law_pot vs H Q E → vs.length = 2 := spF_len (by rintro _ _ ⟨_, _, _, _, rfl, _⟩; rfl)
theorem p__law_pot : ∀ ds x, R__law_pot ds x → Dm.St K M__law_pot (t__law_pot K) (ds.map Slot.val ++ List.replicate (N__law_pot.length - ds.length) .no) (RetF x) := by
  rintro _ _ ⟨a0, a1, r, h, rfl, rfl⟩
  show Dm.St K _ _ [.val (D.scr a0), .val (D.int a1), .no, .no, .no] _
  unfold F__law_pot at h
  obtain ⟨v4, hv4, h⟩ := Option.bind_eq_some_iff.mp h
  refine q (st_asg (ev_ifE (φ := D.int) (et_test (ev_op (ev_var rfl) (ev_cb (ea_cons (ev_var rfl) ea_nil) d_lenR) d_lt)) hv4 ?k5 ?k6) ?nx19)
  case k5 =>
    intro hc hb
    obtain ⟨v1, hv1, hb⟩ := Option.bind_eq_some_iff.mp hb
    cases hb
    refine (ev_op (ev_var rfl) (ev_var rfl) (ty_ixR hv1))
  case k6 =>
    intro hc hb
    obtain ⟨v2, hv2, hb⟩ := Option.bind_eq_some_iff.mp hb
    obtain ⟨v3, hv3, hb⟩ := Option.bind_eq_some_iff.mp hb
    cases hb
    refine (ev_op (ev_op (ev_op (ev_cb (ea_cons (ev_slR (ev_var rfl) eo_none (eo_some ev_int)) ea_nil) d_sum) ev_int (ty_mod hv2)) (ev_op ev_int (ev_var rfl) (ty_mul hv3)) d_add) ev_int d_add)
  case nx19 =>
    show Dm.St K _ _ [.val (D.scr a0), .val (D.int a1), .val (D.int v4), .no, .no] _
    obtain ⟨v7, hv7, h⟩ := Option.bind_eq_some_iff.mp h
    obtain ⟨v8, hv8, h⟩ := Option.bind_eq_some_iff.mp h
    obtain ⟨v9, hv9, h⟩ := Option.bind_eq_some_iff.mp h
    obtain ⟨v10, hv10, h⟩ := Option.bind_eq_some_iff.mp h
    obtain ⟨v11, hv11, h⟩ := Option.bind_eq_some_iff.mp h
    refine q (st_asg (ev_op (ev_op (ev_cb (ea_cons (ev_cb (ea_cons (ev_var rfl) ea_nil) d_abs) ea_nil) d_int) (ev_op (ev_op ev_int ev_int (ty_pow hv7)) ev_int (ty_pow hv8)) (ty_mod hv9)) (ev_cb (ea_cons (ev_op (ev_cb (ea_cons (ev_var rfl) ea_nil) d_abs) (ev_op ev_int ev_int (ty_pow hv10)) d_ge) ea_nil) d_intB) (ty_mul hv11)) ?_)
    show Dm.St K _ _ [.val (D.scr a0), .val (D.int a1), .val (D.int v4), .val (D.int v11), .no] _
    obtain ⟨v12, hv12, h⟩ := Option.bind_eq_some_iff.mp h
    refine q (st_asg (ev_op (ev_cb (ea_cons (ev_var rfl) ea_nil) d_int) ev_int (ty_mod hv12)) ?_)
    show Dm.St K _ _ [.val (D.scr a0), .val (D.int a1), .val (D.int v4), .val (D.int v11), .val (D.int v12)] _
    obtain ⟨v13, hv13, h⟩ := Option.bind_eq_some_iff.mp h
    obtain ⟨v14, hv14, h⟩ := Option.bind_eq_some_iff.mp h
    obtain ⟨v15, hv15, h⟩ := Option.bind_eq_some_iff.mp h
    obtain ⟨v16, hv16, h⟩ := Option.bind_eq_some_iff.mp h
    cases h
    refine st_retW (ew_is (ew_lst (ea_cons (ev_var rfl) (ea_cons (ev_op (ev_cb (ea_cons (ev_op (ev_op (ev_op (ev_var rfl) ev_int (ty_mul hv13)) (ev_op (ev_op ev_int (ev_var rfl) (ty_mul hv14)) (ev_var rfl) (ty_mul hv15)) d_add) ev_int d_add) ea_nil) d_int) ev_int (ty_mod hv16)) (ea_cons ev_int ea_nil))) (Nat.le_of_ble_eq_true rfl)) (by rfl)) rfl
def F__law_take (a0 : List Int) (a1 : Int) : Option ((Int × (List Int))) :=
  (pyIx a0 ((0 : Int))).bind fun v4 =>
  if (decide ((0 : Int) < v4)) = true then (pyIx a0 ((0 : Int))).bind fun v5 =>
  (pyMod v5 a1).bind fun v6 =>
  (pyIx a0 ((0 : Int))).bind fun v7 =>
  (pyDiv v7 a1).bind fun v8 =>
  (pySetL a0 ((0 : Int)) v8).bind fun l9 =>
  some ((v6, l9)) else
  (pyIx a0 ((2 : Int))).bind fun v12 =>
  (pySetL a0 ((2 : Int)) ((v12 + (1 : Int)))).bind fun l13 =>
  (pyIx l13 ((2 : Int))).bind fun v14 =>
  (pyMod v14 ((5 : Int))).bind fun v15 =>
  (pyIx (([(2147483647 : Int), (2147483629 : Int), (2147483587 : Int), (2147483579 : Int), (2147483563 : Int)] : List Int)) v15).bind fun v16 =>
  (pyIx l13 ((1 : Int))).bind fun v17 =>
  (pyIx l13 ((2 : Int))).bind fun v18 =>
  (pyMul ((103155 : Int)) v18).bind fun v19 =>
  (pyIx l13 ((2 : Int))).bind fun v20 =>
  (pyMul v19 v20).bind fun v21 =>
  (pyPow (((v17 + v21) + (4294 : Int))) ((3 : Int))).bind fun v22 =>
  (pyMod v22 v16).bind fun v23 =>
  (pyMod v23 ((20195 : Int))).bind fun v24 =>
  (pyIx l13 ((2 : Int))).bind fun v25 =>
  (pyMul ((100 : Int)) v25).bind fun v26 =>
  (pyMul v23 ((v24 + v26))).bind fun v27 =>
  (pyMod v27 ((2305843009213693907 : Int))).bind fun v28 =>
  (pyDiv v28 ((128 : Int))).bind fun v29 =>
  (pyMod v29 a1).bind fun v30 =>
  some ((v30, l13))
def M__law_take : List Nat := [0]
def R__law_take (o : OD) (ds : List D) (x : Res) (o' : OD) : Prop := ∃ (a0 : List Int) (a1 : Int) (r : Int) (s : List Int), F__law_take a0 a1 = some (r, s) ∧ o = odL D.int a0 ∧ ds = [D.int a1] ∧ x = .v (D.int r) ∧ o' = odL D.int s
theorem len__law_take : ∀ (vs : List V) (H : Hp) (Q : VK) (E : XK), spO K R__law_take vs H Q E → vs.length = 2 := spO_len (by rintro _ _ _ _ ⟨_, _, _, _, _, rfl, rfl, _⟩; rfl)
theorem p__law_take : ∀ o ds x o', R__law_take o ds x o' → Dm.St K M__law_take (t__law_take K) (.own o :: (ds.map Slot.val ++ List.replicate (N__law_take.length - (ds.length + 1)) .no)) (RetO x o') := by
  rintro _ _ _ _ ⟨a0, a1, r, s, h, rfl, rfl, rfl, rfl⟩
  show Dm.St K _ _ [.own (odL D.int a0), .val (D.int a1), .no, .no, .no] _
  unfold F__law_take at h
  obtain ⟨v4, hv4, h⟩ := Option.bind_eq_some_iff.mp h
  refine q_if (et_test (ev_op (pl_ixLT (φ := D.int) (pl_var rfl) rfl rfl ev_int hv4) ev_int d_gt)) (fun hc => ?kt1) (fun hc => ?kf2)
  case kt1 =>
    rw [if_pos hc] at h
    obtain ⟨v5, hv5, h⟩ := Option.bind_eq_some_iff.mp h
    obtain ⟨v6, hv6, h⟩ := Option.bind_eq_some_iff.mp h
    refine q (st_asg (ev_op (ev_cb (ea_cons (pl_ixLT (φ := D.int) (pl_var rfl) rfl rfl ev_int hv5) ea_nil) d_int) (ev_var rfl) (ty_mod hv6)) ?_)
    show Dm.St K _ _ [.own (odL D.int a0), .val (D.int a1), .val (D.int v6), .no, .no] _
    obtain ⟨v7, hv7, h⟩ := Option.bind_eq_some_iff.mp h
    obtain ⟨v8, hv8, h⟩ := Option.bind_eq_some_iff.mp h
    obtain ⟨l9, hl9, h⟩ := Option.bind_eq_some_iff.mp h
    refine q (st_setLT (φ := D.int) (x := v8) (M' := []) (ev_op (pl_ixLT (φ := D.int) (pl_var rfl) rfl rfl ev_int hv7) (ev_var rfl) (ty_div hv8)) (by decide) (by decide) (pl_var rfl) rfl rfl ev_int hl9 ?_)
    show Dm.St K _ _ [.own (odL D.int l9), .val (D.int a1), .val (D.int v6), .no, .no] _
    cases h
    refine st_ret (ev_var rfl) ⟨rfl, rfl⟩
  case kf2 =>
    rw [if_neg (by rw [hc]; exact Bool.false_ne_true)] at h
    refine st_next ?_
    show Dm.St K _ _ [.own (odL D.int a0), .val (D.int a1), .no, .no, .no] _
    obtain ⟨v12, hv12, h⟩ := Option.bind_eq_some_iff.mp h
    obtain ⟨l13, hl13, h⟩ := Option.bind_eq_some_iff.mp h
    refine q (st_setLT (φ := D.int) (x := (v12 + (1 : Int))) (M' := []) (ev_op (pl_ixLT (φ := D.int) (pl_var rfl) rfl rfl ev_int hv12) ev_int d_add) (by decide) (by decide) (pl_var rfl) rfl rfl ev_int hl13 ?_)
    show Dm.St K _ _ [.own (odL D.int l13), .val (D.int a1), .no, .no, .no] _
    obtain ⟨v14, hv14, h⟩ := Option.bind_eq_some_iff.mp h
    obtain ⟨v15, hv15, h⟩ := Option.bind_eq_some_iff.mp h
    obtain ⟨v16, hv16, h⟩ := Option.bind_eq_some_iff.mp h
    refine q (st_asg (ev_op (ev_fzT (ew_is (ew_lst (ea_cons ev_int (ea_cons ev_int (ea_cons ev_int (ea_cons ev_int (ea_cons ev_int ea_nil))))) (Nat.le_of_ble_eq_true rfl)) (by rfl))) (ev_op (ev_cb (ea_cons (pl_ixLT (φ := D.int) (pl_var rfl) rfl rfl ev_int hv14) ea_nil) d_int) ev_int (ty_mod hv15)) (ty_ixL (φ := D.int) hv16)) ?_)
    show Dm.St K _ _ [.own (odL D.int l13), .val (D.int a1), .no, .val (D.int v16), .no] _
    obtain ⟨v17, hv17, h⟩ := Option.bind_eq_some_iff.mp h
    obtain ⟨v18, hv18, h⟩ := Option.bind_eq_some_iff.mp h
    obtain ⟨v19, hv19, h⟩ := Option.bind_eq_some_iff.mp h
    obtain ⟨v20, hv20, h⟩ := Option.bind_eq_some_iff.mp h
    obtain ⟨v21, hv21, h⟩ := Option.bind_eq_some_iff.mp h
    obtain ⟨v22, hv22, h⟩ := Option.bind_eq_some_iff.mp h
    obtain ⟨v23, hv23, h⟩ := Option.bind_eq_some_iff.mp h
    refine q (st_asg (ev_op (ev_cb (ea_cons (ev_op (ev_cb (ea_cons (ev_op (ev_op (pl_ixLT (φ := D.int) (pl_var rfl) rfl rfl ev_int hv17) (ev_op (ev_op ev_int (pl_ixLT (φ := D.int) (pl_var rfl) rfl rfl ev_int hv18) (ty_mul hv19)) (pl_ixLT (φ := D.int) (pl_var rfl) rfl rfl ev_int hv20) (ty_mul hv21)) d_add) ev_int d_add) ea_nil) d_int) ev_int (ty_pow hv22)) ea_nil) d_int) (ev_var rfl) (ty_mod hv23)) ?_)
    show Dm.St K _ _ [.own (odL D.int l13), .val (D.int a1), .no, .val (D.int v16), .val (D.int v23)] _
    obtain ⟨v24, hv24, h⟩ := Option.bind_eq_some_iff.mp h
    obtain ⟨v25, hv25, h⟩ := Option.bind_eq_some_iff.mp h
    obtain ⟨v26, hv26, h⟩ := Option.bind_eq_some_iff.mp h
    obtain ⟨v27, hv27, h⟩ := Option.bind_eq_some_iff.mp h
    obtain ⟨v28, hv28, h⟩ := Option.bind_eq_some_iff.mp h
    refine q (st_asg (ev_op (ev_cb (ea_cons (ev_op (ev_var rfl) (ev_op (ev_op (ev_cb (ea_cons (ev_var rfl) ea_nil) d_int) ev_int (ty_mod hv24)) (ev_op ev_int (pl_ixLT (φ := D.int) (pl_var rfl) rfl rfl ev_int hv25) (ty_mul hv26)) d_add) (ty_mul hv27)) ea_nil) d_int) ev_int (ty_mod hv28)) ?_)
    show Dm.St K _ _ [.own (odL D.int l13), .val (D.int a1), .no, .val (D.int v16), .val (D.int v28)] _
    obtain ⟨v29, hv29, h⟩ := Option.bind_eq_some_iff.mp h
    obtain ⟨v30, hv30, h⟩ := Option.bind_eq_some_iff.mp h
    cases h
    refine st_ret (ev_op (ev_cb (ea_cons (ev_op (ev_var rfl) ev_int (ty_div hv29)) ea_nil) d_int) (ev_var rfl) (ty_mod hv30)) ⟨rfl, rfl⟩
def F__law_cells (a0 : List Int) (a1 : Int) : Option (List Int) :=
  (pyLRng ((max ((1 : Int)) ((min a1 ((a0.length : Int))))))).bind fun l1 =>
  some l1
def M__law_cells : List Nat := []
def R__law_cells (ds : List D) (x : Res) : Prop := ∃ (a0 : List Int) (a1 : Int) (r : List Int), F__law_cells a0 a1 = some r ∧ ds = [D.scr a0, D.int a1] ∧ x = .v (D.lst (r.map D.int))
theorem len__law_cells : ∀ (vs : List V) (H : Hp) (Q : VK) (E : XK), spF K R__law_cells vs H Q E → vs.length = 2 := spF_len (by rintro _ _ ⟨_, _, _, _, rfl, _⟩; rfl)
theorem p__law_cells : ∀ ds x, R__law_cells ds x → Dm.St K M__law_cells (t__law_cells K) (ds.map Slot.val ++ List.replicate (N__law_cells.length - ds.length) .no) (RetF x) := by
  rintro _ _ ⟨a0, a1, r, h, rfl, rfl⟩
  show Dm.St K _ _ [.val (D.scr a0), .val (D.int a1)] _
  unfold F__law_cells at h
  obtain ⟨l1, hl1, h⟩ := Option.bind_eq_some_iff.mp h
  cases h
  refine st_ret (ev_lstRgT (ev_cb (ea_cons ev_int (ea_cons (ev_cb (ea_cons (ev_var rfl) (ea_cons (ev_cb (ea_cons (ev_var rfl) ea_nil) d_lenR) ea_nil)) d_min2) ea_nil)) d_max2) hl1) rfl
def F_is_between (a0 : Int) (a1 : Int) (a2 : Int) : Option Bool :=
  (F_is_integer a0).bind fun v1 =>
  some ((v1 && (decide (a1 ≤ a0) && decide (a0 ≤ a2))))
def M_is_between : List Nat := []
def R_is_between (ds : List D) (x : Res) : Prop := ∃ (a0 : Int) (a1 : Int) (a2 : Int) (r : Bool), F_is_between a0 a1 a2 = some r ∧ ds = [D.int a0, D.int a1, D.int a2] ∧ x = .v (D.bl r)
theorem len_is_between : ∀ (vs : List V) (H : Hp) (Q : VK) (E : XK), spF K R_is_between vs H Q E → vs.length = 3 := spF_len (by rintro _ _ ⟨_, _, _, _, _, rfl, _⟩; rfl)
theorem p_is_between : ∀ ds x, R_is_between ds x → Dm.St K M_is_between (t_is_between K (spF K R_is_integer)) (ds.map Slot.val ++ List.replicate (N_is_between.length - ds.length) .no) (RetF x) := by
  rintro _ _ ⟨a0, a1, a2, r, h, rfl, rfl⟩
  show Dm.St K _ _ [.val (D.int a0), .val (D.int a1), .val (D.int a2)] _
  unfold F_is_between at h
  obtain ⟨v1, hv1, h⟩ := Option.bind_eq_some_iff.mp h
  cases h
  refine st_ret (ev_andV (ev_callF (ea_cons (ev_var rfl) ea_nil) ⟨_, _, hv1, rfl, rfl⟩) fun _ => (ev_chain (ev_var rfl) (ev_var rfl) d_le fun _ => ⟨(ev_var rfl), d_le⟩)) rfl
def F_reduced (a0 : Int) (a1 : Int) : Option ((Int × Int)) :=
  (if (decide ((0 : Int) < a1)) = true then (F_common a0 a1).bind fun v1 =>
  some v1 else (F_common a0 a1).bind fun v2 =>
  some (((0 : Int) - v2))).bind fun v3 =>
  (pyDiv a0 v3).bind fun v6 =>
  (pyDiv a1 v3).bind fun v7 =>
  some ((v6, v7))
def M_reduced : List Nat := []
def R_reduced (ds : List D) (x : Res) : Prop := ∃ (a0 : Int) (a1 : Int) (r : (Int × Int)), F_reduced a0 a1 = some r ∧ ds = [D.int a0, D.int a1] ∧ x = .v (D.tup [D.int r.1, D.int r.2])
theorem len_reduced : ∀ (vs : List V) (H : Hp) (Q : VK) (E : XK), spF K R_reduced vs H Q E → vs.length = 2 := spF_len (by rintro _ _ ⟨_, _, _, _, rfl, _⟩; rfl)
theorem p_reduced : ∀ ds x, R_reduced ds x → Dm.St K M_reduced (t_reduced K (spF K R_common)) (ds.map Slot.val ++ List.replicate (N_reduced.length - ds.length) .no) (RetF x) := by
  rintro _ _ ⟨a0, a1, r, h, rfl, rfl⟩
  show Dm.St K _ _ [.val (D.int a0), .val (D.int a1), .no] _
  unfold F_reduced at h
  obtain ⟨v3, hv3, h⟩ := Option.bind_eq_some_iff.mp h
  refine q (st_asg (ev_ifE (φ := D.int) (et_test (ev_op (ev_var rfl) ev_int d_gt)) hv3 ?k4 ?k5) ?nx8)
  case k4 =>
    intro hc hb
    obtain ⟨v1, hv1, hb⟩ := Option.bind_eq_some_iff.mp hb
    cases hb
    refine (ev_callF (ea_cons (ev_var rfl) (ea_cons (ev_var rfl) ea_nil)) ⟨_, _, _, hv1, rfl, rfl⟩)
  case k5 =>
    intro hc hb
    obtain ⟨v2, hv2, hb⟩ := Option.bind_eq_some_iff.mp hb
    cases hb
    refine (ev_op ev_int (ev_callF (ea_cons (ev_var rfl) (ea_cons (ev_var rfl) ea_nil)) ⟨_, _, _, hv2, rfl, rfl⟩) d_sub)
  case nx8 =>
    show Dm.St K _ _ [.val (D.int a0), .val (D.int a1), .val (D.int v3)] _
    obtain ⟨v6, hv6, h⟩ := Option.bind_eq_some_iff.mp h
    obtain ⟨v7, hv7, h⟩ := Option.bind_eq_some_iff.mp h
    cases h
    refine st_ret (ev_tup (ea_cons (ev_op (ev_var rfl) (ev_var rfl) (ty_div hv6)) (ea_cons (ev_op (ev_var rfl) (ev_var rfl) (ty_div hv7)) ea_nil)) (Nat.le_of_ble_eq_true rfl)) rfl
def F_GroveReader_is_new (a0 : O_GroveReader) (a1 : Str) : Option Bool :=
  (F_is_name a1).bind fun v1 =>
  some ((v1 && ((!(mGet a0.own_palms a1).isSome) && (!(mGet a0.own_males a1).isSome))))
def M_GroveReader_is_new : List Nat := []
def R_GroveReader_is_new (C_GroveReader : Addr) (o : OD) (ds : List D) (x : Res) (o' : OD) : Prop := ∃ (a0 : O_GroveReader) (a1 : Str) (r : Bool), F_GroveReader_is_new a0 a1 = some r ∧ o = oO_GroveReader C_GroveReader a0 ∧ ds = [D.str a1] ∧ x = .v (D.bl r) ∧ o' = oO_GroveReader C_GroveReader a0
theorem len_GroveReader_is_new {C_GroveReader : Addr} : ∀ (vs : List V) (H : Hp) (Q : VK) (E : XK), spO K (R_GroveReader_is_new C_GroveReader) vs H Q E → vs.length = 2 := spO_len (by rintro _ _ _ _ ⟨_, _, _, _, rfl, rfl, _⟩; rfl)
theorem p_GroveReader_is_new {C_GroveReader : Addr} (k_GroveReader : CK_GroveReader K C_GroveReader) : ∀ o ds x o', R_GroveReader_is_new C_GroveReader o ds x o' → Dm.St K M_GroveReader_is_new (t_GroveReader_is_new K (spF K R_is_name)) (.own o :: (ds.map Slot.val ++ List.replicate (N_GroveReader_is_new.length - (ds.length + 1)) .no)) (RetO x o') := by
  rintro _ _ _ _ ⟨a0, a1, r, h, rfl, rfl, rfl, rfl⟩
  show Dm.St K _ _ [.own (oO_GroveReader C_GroveReader a0), .val (D.str a1)] _
  unfold F_GroveReader_is_new at h
  obtain ⟨v1, hv1, h⟩ := Option.bind_eq_some_iff.mp h
  cases h
  refine st_ret (ev_andV (ev_callF (ea_cons (ev_var rfl) ea_nil) ⟨_, _, hv1, rfl, rfl⟩) fun _ => (ev_andV (pl_niM (κ := (Sum.inr : Str → Key)) (φ := (fun z1 : (Int × Int × Int × Str × Int) => D.tup [D.int z1.1, D.int z1.2.1, D.int z1.2.2.1, D.str z1.2.2.2.1, D.int z1.2.2.2.2])) inS (ev_var rfl) (pl_fld (pl_var rfl) rfl rfl (j := 1) (by decide +kernel) (by decide +kernel) k_GroveReader.cls k_GroveReader.n_own_palms) rfl rfl) fun _ => (pl_niM (κ := (Sum.inr : Str → Key)) (φ := (fun z1 : (Int × Int × Int) => D.tup [D.int z1.1, D.int z1.2.1, D.int z1.2.2])) inS (ev_var rfl) (pl_fld (pl_var rfl) rfl rfl (j := 2) (by decide +kernel) (by decide +kernel) k_GroveReader.cls k_GroveReader.n_own_males) rfl rfl))) ⟨rfl, rfl⟩
def F_bears_in (a0 : O_Grove) (a1 : Str) (a2 : Int) : Option Bool :=
  (F_Grove_years_of a0 a1).bind fun v1 =>
  (pyLenS v1).bind fun v2 =>
  (pyMod a2 v2).bind fun v3 =>
  (pyIxS v1 v3).bind fun v4 =>
  some ((decide (v4 = ("1" : Str))))
def M_bears_in : List Nat := []
def R_bears_in (C_Grove : Addr) (ds : List D) (x : Res) : Prop := ∃ (a0 : O_Grove) (a1 : Str) (a2 : Int) (r : Bool), F_bears_in a0 a1 a2 = some r ∧ ds = [dO_Grove C_Grove a0, D.str a1, D.int a2] ∧ x = .v (D.bl r)
theorem len_bears_in {C_Grove : Addr} : ∀ (vs : List V) (H : Hp) (Q : VK) (E : XK), spF K (R_bears_in C_Grove) vs H Q E → vs.length = 3 := spF_len (by rintro _ _ ⟨_, _, _, _, _, rfl, _⟩; rfl)
theorem p_bears_in {C_Grove : Addr} (k_Grove : CK_Grove K C_Grove) : ∀ ds x, R_bears_in C_Grove ds x → Dm.St K M_bears_in (t_bears_in K C_Grove (spF K (R_Grove_years_of C_Grove))) (ds.map Slot.val ++ List.replicate (N_bears_in.length - ds.length) .no) (RetF x) := by
  rintro _ _ ⟨a0, a1, a2, r, h, rfl, rfl⟩
  show Dm.St K _ _ [.val (dO_Grove C_Grove a0), .val (D.str a1), .val (D.int a2), .no] _
  unfold F_bears_in at h
  obtain ⟨v1, hv1, h⟩ := Option.bind_eq_some_iff.mp h
  refine q (st_asg (ev_methF (ev_var rfl) (by decide +kernel) (ea_cons (ev_var rfl) ea_nil) ⟨_, _, _, hv1, rfl, rfl⟩) ?_)
  show Dm.St K _ _ [.val (dO_Grove C_Grove a0), .val (D.str a1), .val (D.int a2), .val (D.str v1)] _
  obtain ⟨v2, hv2, h⟩ := Option.bind_eq_some_iff.mp h
  obtain ⟨v3, hv3, h⟩ := Option.bind_eq_some_iff.mp h
  obtain ⟨v4, hv4, h⟩ := Option.bind_eq_some_iff.mp h
  cases h
  refine st_ret (ev_op (ev_op (ev_var rfl) (ev_op (ev_var rfl) (ev_cb (ea_cons (ev_var rfl) ea_nil) (ty_lenS hv2)) (ty_mod hv3)) (ty_ixS hv4)) ev_str d_eqS) rfl
def F_bearings_of (a0 : (Int × Int)) (a1 : List Int) : Option (List Int) :=
  (pyRng a0.2).bind fun l1 =>
  (lcM (fun x2 => some true) (fun x2 => (F_bearing_by a0 a1 x2).bind fun v3 =>
  some v3) l1).bind fun l4 =>
  some l4
def M_bearings_of : List Nat := []
def R_bearings_of (ds : List D) (x : Res) : Prop := ∃ (a0 : (Int × Int)) (a1 : List Int) (r : List Int), F_bearings_of a0 a1 = some r ∧ ds = [D.tup [D.int a0.1, D.int a0.2], D.tup (a1.map D.int)] ∧ x = .v (D.lst (r.map D.int))
theorem len_bearings_of : ∀ (vs : List V) (H : Hp) (Q : VK) (E : XK), spF K R_bearings_of vs H Q E → vs.length = 2 := spF_len (by rintro _ _ ⟨_, _, _, _, rfl, _⟩; rfl)
theorem p_bearings_of : ∀ ds x, R_bearings_of ds x → Dm.St K M_bearings_of (t_bearings_of K (spF K R_bearing_by)) (ds.map Slot.val ++ List.replicate (N_bearings_of.length - ds.length) .no) (RetF x) := by
  rintro _ _ ⟨a0, a1, r, h, rfl, rfl⟩
  show Dm.St K _ _ [.val (D.tup [D.int a0.1, D.int a0.2]), .val (D.tup (a1.map D.int)), .no] _
  unfold F_bearings_of at h
  obtain ⟨l1, hl1, h⟩ := Option.bind_eq_some_iff.mp h
  obtain ⟨l4, hl4, h⟩ := Option.bind_eq_some_iff.mp h
  cases h
  refine st_ret (ev_fzT (ew_lcT (φ := D.int) (ψ := D.int) (it_rng (ea_cons (ev_op (ev_var rfl) ev_int (d_ixT (by rfl))) ea_nil) hl1) hl4 (fun _ => trivial) rfl ?k5)) rfl
  case k5 =>
    intro x2 hx
    refine turn1 (e' := _) (gd_name (by decide)) ?_ ?_
    · intro b hb
      cases hb
      refine et_yes
    · intro y hc hb
      obtain ⟨v3, hv3, hb⟩ := Option.bind_eq_some_iff.mp hb
      cases hb
      refine (ev_callF (ea_cons (ev_var rfl) (ea_cons (ev_var rfl) (ea_cons (ev_var rfl) ea_nil))) ⟨_, _, _, _, hv3, rfl, rfl⟩)
def F_lengths_of (a0 : O_Grove) : Option (List Int) :=
  (F_Grove_palm_names a0).bind fun v1 =>
  (lcM (fun x2 => some true) (fun x2 => (F_Grove_years_of a0 x2).bind fun v3 =>
  (pyLenS v3).bind fun v4 =>
  some v4) v1).bind fun l5 =>
  some l5
def M_lengths_of : List Nat := []
def R_lengths_of (C_Grove : Addr) (ds : List D) (x : Res) : Prop := ∃ (a0 : O_Grove) (r : List Int), F_lengths_of a0 = some r ∧ ds = [dO_Grove C_Grove a0] ∧ x = .v (D.lst (r.map D.int))
theorem len_lengths_of {C_Grove : Addr} : ∀ (vs : List V) (H : Hp) (Q : VK) (E : XK), spF K (R_lengths_of C_Grove) vs H Q E → vs.length = 1 := spF_len (by rintro _ _ ⟨_, _, _, rfl, _⟩; rfl)
theorem p_lengths_of {C_Grove : Addr} (k_Grove : CK_Grove K C_Grove) : ∀ ds x, R_lengths_of C_Grove ds x → Dm.St K M_lengths_of (t_lengths_of K C_Grove (spF K (R_Grove_palm_names C_Grove)) (spF K (R_Grove_years_of C_Grove))) (ds.map Slot.val ++ List.replicate (N_lengths_of.length - ds.length) .no) (RetF x) := by
  rintro _ _ ⟨a0, r, h, rfl, rfl⟩
  show Dm.St K _ _ [.val (dO_Grove C_Grove a0), .no] _
  unfold F_lengths_of at h
  obtain ⟨v1, hv1, h⟩ := Option.bind_eq_some_iff.mp h
  obtain ⟨l5, hl5, h⟩ := Option.bind_eq_some_iff.mp h
  cases h
  refine st_ret (ev_fzT (ew_lcT (φ := D.str) (ψ := D.int) (it_anyL (ev_methF (ev_var rfl) (by decide +kernel) ea_nil ⟨_, _, hv1, rfl, rfl⟩)) hl5 (fun _ => trivial) rfl ?k6)) rfl
  case k6 =>
    intro x2 hx
    refine turn1 (e' := _) (gd_name (by decide)) ?_ ?_
    · intro b hb
      cases hb
      refine et_yes
    · intro y hc hb
      obtain ⟨v3, hv3, hb⟩ := Option.bind_eq_some_iff.mp hb
      obtain ⟨v4, hv4, hb⟩ := Option.bind_eq_some_iff.mp hb
      cases hb
      refine (ev_cb (ea_cons (ev_methF (ev_var rfl) (by decide +kernel) (ea_cons (ev_var rfl) ea_nil) ⟨_, _, _, hv3, rfl, rfl⟩) ea_nil) (ty_lenS hv4))
def F_GroveReader_takes_head (a0 : O_GroveReader) (a1 : List (Option Int)) : Option ((Bool × O_GroveReader)) :=
  if (a0.own_head.isSome) = true then some ((false, a0)) else
  (pyIx a1 ((0 : Int))).bind fun v7 =>
  (v7).bind fun u8 =>
  (F_is_between u8 ((1 : Int)) ((3 : Int))).bind fun v9 =>
  (if (!v9) = true then some true else (pyIx a1 ((1 : Int))).bind fun v10 =>
  (v10).bind fun u11 =>
  (F_is_between u11 ((1 : Int)) ((6 : Int))).bind fun v12 =>
  some ((!v12))).bind fun v13 =>
  if v13 = true then some ((false, a0)) else
  (pyIx a1 ((0 : Int))).bind fun v15 =>
  (v15).bind fun u16 =>
  (pyIx a1 ((1 : Int))).bind fun v17 =>
  (v17).bind fun u18 =>
  some ((true, { a0 with own_head := (some ((u16, u18))) }))
def M_GroveReader_takes_head : List Nat := [0]
def R_GroveReader_takes_head (C_GroveReader : Addr) (o : OD) (ds : List D) (x : Res) (o' : OD) : Prop := ∃ (a0 : O_GroveReader) (a1 : List (Option Int)) (r : Bool) (s : O_GroveReader), F_GroveReader_takes_head a0 a1 = some (r, s) ∧ o = oO_GroveReader C_GroveReader a0 ∧ ds = [D.lst (a1.map (fun z1 : Option Int => optD D.int z1))] ∧ x = .v (D.bl r) ∧ o' = oO_GroveReader C_GroveReader s
theorem len_GroveReader_takes_head {C_GroveReader : Addr} : ∀ (vs : List V) (H : Hp) (Q : VK) (E : XK), spO K (R_GroveReader_takes_head C_GroveReader) vs H Q E → vs.length = 2 := spO_len (by rintro _ _ _ _ ⟨_, _, _, _, _, rfl, rfl, _⟩; rfl)
theorem p_GroveReader_takes_head {C_GroveReader : Addr} (k_GroveReader : CK_GroveReader K C_GroveReader) : ∀ o ds x o', R_GroveReader_takes_head C_GroveReader o ds x o' → Dm.St K M_GroveReader_takes_head (t_GroveReader_takes_head K (spF K R_is_between)) (.own o :: (ds.map Slot.val ++ List.replicate (N_GroveReader_takes_head.length - (ds.length + 1)) .no)) (RetO x o') := by
  rintro _ _ _ _ ⟨a0, a1, r, s, h, rfl, rfl, rfl, rfl⟩
  show Dm.St K _ _ [.own (oO_GroveReader C_GroveReader a0), .val (D.lst (a1.map (fun z1 : Option Int => optD D.int z1)))] _
  unfold F_GroveReader_takes_head at h
  refine q_if (et_test (ev_op (ev_leaf (pl_fld (pl_var rfl) rfl rfl (j := 0) (by decide +kernel) (by decide +kernel) k_GroveReader.cls k_GroveReader.n_own_head) rfl rfl) ev_non (ty_ntN (φ := (fun z1 : (Int × Int) => D.tup [D.int z1.1, D.int z1.2])) fun _ => rfl))) (fun hc => ?kt1) (fun hc => ?kf2)
  case kt1 =>
    rw [if_pos hc] at h
    cases h
    refine st_ret ev_bl ⟨rfl, rfl⟩
  case kf2 =>
    rw [if_neg (by rw [hc]; exact Bool.false_ne_true)] at h
    refine st_next ?_
    show Dm.St K _ _ [.own (oO_GroveReader C_GroveReader a0), .val (D.lst (a1.map (fun z1 : Option Int => optD D.int z1)))] _
    obtain ⟨v7, hv7, h⟩ := Option.bind_eq_some_iff.mp h
    obtain ⟨u8, hu8, h⟩ := Option.bind_eq_some_iff.mp h
    obtain ⟨v9, hv9, h⟩ := Option.bind_eq_some_iff.mp h
    obtain ⟨v13, hv13, h⟩ := Option.bind_eq_some_iff.mp h
    refine q_if (et_orO (et_not (et_B (ev_callF (ea_cons (ev_someO (φ := D.int) (ev_op (ev_var rfl) ev_int (ty_ixL (φ := (fun z1 : Option Int => optD D.int z1)) hv7)) hu8) (ea_cons ev_int (ea_cons ev_int ea_nil))) ⟨_, _, _, _, hv9, rfl, rfl⟩))) hv13 ?k14) (fun hc => ?kt4) (fun hc => ?kf5)
    case k14 =>
      intro hc hb
      obtain ⟨v10, hv10, hb⟩ := Option.bind_eq_some_iff.mp hb
      obtain ⟨u11, hu11, hb⟩ := Option.bind_eq_some_iff.mp hb
      obtain ⟨v12, hv12, hb⟩ := Option.bind_eq_some_iff.mp hb
      cases hb
      refine (et_not (et_B (ev_callF (ea_cons (ev_someO (φ := D.int) (ev_op (ev_var rfl) ev_int (ty_ixL (φ := (fun z1 : Option Int => optD D.int z1)) hv10)) hu11) (ea_cons ev_int (ea_cons ev_int ea_nil))) ⟨_, _, _, _, hv12, rfl, rfl⟩)))
    case kt4 =>
      rw [if_pos hc] at h
      cases h
      refine st_ret ev_bl ⟨rfl, rfl⟩
    case kf5 =>
      rw [if_neg (by rw [hc]; exact Bool.false_ne_true)] at h
      refine st_next ?_
      show Dm.St K _ _ [.own (oO_GroveReader C_GroveReader a0), .val (D.lst (a1.map (fun z1 : Option Int => optD D.int z1)))] _
      obtain ⟨v15, hv15, h⟩ := Option.bind_eq_some_iff.mp h
      obtain ⟨u16, hu16, h⟩ := Option.bind_eq_some_iff.mp h
      obtain ⟨v17, hv17, h⟩ := Option.bind_eq_some_iff.mp h
      obtain ⟨u18, hu18, h⟩ := Option.bind_eq_some_iff.mp h
      refine q (st_fldOld (M' := []) (ew_val (ev_tup (ea_cons (ev_someO (φ := D.int) (ev_op (ev_var rfl) ev_int (ty_ixL (φ := (fun z1 : Option Int => optD D.int z1)) hv15)) hu16) (ea_cons (ev_someO (φ := D.int) (ev_op (ev_var rfl) ev_int (ty_ixL (φ := (fun z1 : Option Int => optD D.int z1)) hv17)) hu18) ea_nil)) (Nat.le_of_ble_eq_true rfl))) (by decide) (by decide) (pl_var rfl) rfl rfl k_GroveReader.cls k_GroveReader.n_own_head (by decide) (j := 0) (by decide +kernel) (by decide +kernel) ?_)
      show Dm.St K _ _ [.own (oO_GroveReader C_GroveReader ({ a0 with own_head := (some ((u16, u18))) })), .val (D.lst (a1.map (fun z1 : Option Int => optD D.int z1)))] _
      cases h
      refine st_ret ev_bl ⟨rfl, rfl⟩
def F_is_day (a0 : Int) : Option Bool :=
  (F_is_between a0 ((0 : Int)) ((999 : Int))).bind fun v1 =>
  some v1
def M_is_day : List Nat := []
def R_is_day (ds : List D) (x : Res) : Prop := ∃ (a0 : Int) (r : Bool), F_is_day a0 = some r ∧ ds = [D.int a0] ∧ x = .v (D.bl r)
theorem len_is_day : ∀ (vs : List V) (H : Hp) (Q : VK) (E : XK), spF K R_is_day vs H Q E → vs.length = 1 := spF_len (by rintro _ _ ⟨_, _, _, rfl, _⟩; rfl)
theorem p_is_day : ∀ ds x, R_is_day ds x → Dm.St K M_is_day (t_is_day K (spF K R_is_between)) (ds.map Slot.val ++ List.replicate (N_is_day.length - ds.length) .no) (RetF x) := by
  rintro _ _ ⟨a0, r, h, rfl, rfl⟩
  show Dm.St K _ _ [.val (D.int a0)] _
  unfold F_is_day at h
  obtain ⟨v1, hv1, h⟩ := Option.bind_eq_some_iff.mp h
  cases h
  refine st_ret (ev_callF (ea_cons (ev_var rfl) (ea_cons ev_int (ea_cons ev_int ea_nil))) ⟨_, _, _, _, hv1, rfl, rfl⟩) rfl
def F_check_year (a0 : Int) : Option Unit :=
  (F_is_between a0 ((0 : Int)) ((9999 : Int))).bind fun v4 =>
  if (!v4) = true then none else some ()
def M_check_year : List Nat := []
def R_check_year (ds : List D) (x : Res) : Prop := ∃ (a0 : Int) (r : Unit), F_check_year a0 = some r ∧ ds = [D.int a0] ∧ x = .v (D.non)
theorem len_check_year : ∀ (vs : List V) (H : Hp) (Q : VK) (E : XK), spF K R_check_year vs H Q E → vs.length = 1 := spF_len (by rintro _ _ ⟨_, _, _, rfl, _⟩; rfl)
theorem p_check_year : ∀ ds x, R_check_year ds x → Dm.St K M_check_year (t_check_year K (spF K R_is_between)) (ds.map Slot.val ++ List.replicate (N_check_year.length - ds.length) .no) (RetF x) := by
  rintro _ _ ⟨a0, r, h, rfl, rfl⟩
  show Dm.St K _ _ [.val (D.int a0)] _
  unfold F_check_year at h
  obtain ⟨v4, hv4, h⟩ := Option.bind_eq_some_iff.mp h
  refine st_if (et_not (et_B (ev_callF (ea_cons (ev_var rfl) (ea_cons ev_int (ea_cons ev_int ea_nil))) ⟨_, _, _, _, hv4, rfl, rfl⟩))) (fun hc => ?kt1) (fun hc => ?kf2)
  case kt1 =>
    rw [if_pos hc] at h
    cases h
  case kf2 =>
    rw [if_neg (by rw [hc]; exact Bool.false_ne_true)] at h
    refine st_next ?_
    cases h
    exact rfl
def F_baskets_in (a0 : O_Grove) (a1 : Int) : Option Int :=
  (F_Grove_palm_names a0).bind fun v1 =>
  (lcM (fun x2 => (F_bears_in a0 x2 a1).bind fun v3 =>
  some v3) (fun x2 => (F_Grove_dates_of a0 x2).bind fun v4 =>
  some v4) v1).bind fun l5 =>
  some l5.sum
def M_baskets_in : List Nat := []
def R_baskets_in (C_Grove : Addr) (ds : List D) (x : Res) : Prop := ∃ (a0 : O_Grove) (a1 : Int) (r : Int), F_baskets_in a0 a1 = some r ∧ ds = [dO_Grove C_Grove a0, D.int a1] ∧ x = .v (D.int r)
theorem len_baskets_in {C_Grove : Addr} : ∀ (vs : List V) (H : Hp) (Q : VK) (E : XK), spF K (R_baskets_in C_Grove) vs H Q E → vs.length = 2 := spF_len (by rintro _ _ ⟨_, _, _, _, rfl, _⟩; rfl)
theorem p_baskets_in {C_Grove : Addr} (k_Grove : CK_Grove K C_Grove) : ∀ ds x, R_baskets_in C_Grove ds x → Dm.St K M_baskets_in (t_baskets_in K C_Grove (spF K (R_Grove_palm_names C_Grove)) (spF K (R_bears_in C_Grove)) (spF K (R_Grove_dates_of C_Grove))) (ds.map Slot.val ++ List.replicate (N_baskets_in.length - ds.length) .no) (RetF x) := by
  rintro _ _ ⟨a0, a1, r, h, rfl, rfl⟩
  show Dm.St K _ _ [.val (dO_Grove C_Grove a0), .val (D.int a1), .no] _
  unfold F_baskets_in at h
  obtain ⟨v1, hv1, h⟩ := Option.bind_eq_some_iff.mp h
  obtain ⟨l5, hl5, h⟩ := Option.bind_eq_some_iff.mp h
  cases h
  refine st_ret (ev_cb (ea_cons (ev_fzT (ew_lcT (φ := D.str) (ψ := D.int) (it_anyL (ev_methF (ev_var rfl) (by decide +kernel) ea_nil ⟨_, _, hv1, rfl, rfl⟩)) hl5 (fun _ => trivial) rfl ?k6)) ea_nil) d_sum) rfl
  case k6 =>
    intro x2 hx
    refine turn1 (e' := _) (gd_name (by decide)) ?_ ?_
    · intro b hb
      obtain ⟨v3, hv3, hb⟩ := Option.bind_eq_some_iff.mp hb
      cases hb
      refine (et_B (ev_callF (ea_cons (ev_var rfl) (ea_cons (ev_var rfl) (ea_cons (ev_var rfl) ea_nil))) ⟨_, _, _, _, hv3, rfl, rfl⟩))
    · intro y hc hb
      obtain ⟨v4, hv4, hb⟩ := Option.bind_eq_some_iff.mp hb
      cases hb
      refine (ev_methF (ev_var rfl) (by decide +kernel) (ea_cons (ev_var rfl) ea_nil) ⟨_, _, _, hv4, rfl, rfl⟩)
def F_check_life (a0 : (Int × Int)) : Option Unit :=
  (if (!true) = true then some true else (if (decide ((2 : Int) ≠ (2 : Int))) = true then some true else (F_is_between a0.2 ((1 : Int)) ((60 : Int))).bind fun v4 =>
  some ((!v4))).bind fun v5 =>
  some v5).bind fun v7 =>
  if v7 = true then none else
  (F_is_between a0.1 ((0 : Int)) ((a0.2 - (1 : Int)))).bind fun v12 =>
  if (!v12) = true then none else some ()
def M_check_life : List Nat := []
def R_check_life (ds : List D) (x : Res) : Prop := ∃ (a0 : (Int × Int)) (r : Unit), F_check_life a0 = some r ∧ ds = [D.tup [D.int a0.1, D.int a0.2]] ∧ x = .v (D.non)
theorem len_check_life : ∀ (vs : List V) (H : Hp) (Q : VK) (E : XK), spF K R_check_life vs H Q E → vs.length = 1 := spF_len (by rintro _ _ ⟨_, _, _, rfl, _⟩; rfl)
theorem p_check_life : ∀ ds x, R_check_life ds x → Dm.St K M_check_life (t_check_life K (spF K R_is_between)) (ds.map Slot.val ++ List.replicate (N_check_life.length - ds.length) .no) (RetF x) := by
  rintro _ _ ⟨a0, r, h, rfl, rfl⟩
  show Dm.St K _ _ [.val (D.tup [D.int a0.1, D.int a0.2])] _
  unfold F_check_life at h
  obtain ⟨v7, hv7, h⟩ := Option.bind_eq_some_iff.mp h
  refine q_if (et_orO (et_not (et_B (ev_cb (ea_cons (ev_var rfl) (ea_cons ev_ty ea_nil)) (d_isiTy (b := true) rfl (by decide +kernel))))) hv7 ?k8) (fun hc => ?kt1) (fun hc => ?kf2)
  case k8 =>
    intro hc hb
    obtain ⟨v5, hv5, hb⟩ := Option.bind_eq_some_iff.mp hb
    cases hb
    refine (et_orO (et_test (ev_op (ev_is (ev_cb (ea_cons (ev_var rfl) ea_nil) d_lenT) (by rfl)) ev_int d_neI)) hv5 ?k6)
    case k6 =>
      intro hc hb
      obtain ⟨v4, hv4, hb⟩ := Option.bind_eq_some_iff.mp hb
      cases hb
      refine (et_not (et_B (ev_callF (ea_cons (ev_op (ev_var rfl) ev_int (d_ixT (by rfl))) (ea_cons ev_int (ea_cons ev_int ea_nil))) ⟨_, _, _, _, hv4, rfl, rfl⟩)))
  case kt1 =>
    rw [if_pos hc] at h
    cases h
  case kf2 =>
    rw [if_neg (by rw [hc]; exact Bool.false_ne_true)] at h
    refine st_next ?_
    show Dm.St K _ _ [.val (D.tup [D.int a0.1, D.int a0.2])] _
    obtain ⟨v12, hv12, h⟩ := Option.bind_eq_some_iff.mp h
    refine st_if (et_not (et_B (ev_callF (ea_cons (ev_op (ev_var rfl) ev_int (d_ixT (by rfl))) (ea_cons ev_int (ea_cons (ev_op (ev_op (ev_var rfl) ev_int (d_ixT (by rfl))) ev_int d_sub) ea_nil))) ⟨_, _, _, _, hv12, rfl, rfl⟩))) (fun hc => ?kt9) (fun hc => ?kf10)
    case kt9 =>
      rw [if_pos hc] at h
      cases h
    case kf10 =>
      rw [if_neg (by rw [hc]; exact Bool.false_ne_true)] at h
      refine st_next ?_
      cases h
      exact rfl
def F_are_plants_of (a0 : (Int × Int)) (a1 : List Int) : Option Bool :=
  if ((!true) || (decide ((60 : Int) < (a1.length : Int)))) = true then some false else
  (lcM (fun x7 => some true) (fun x7 => (F_is_between x7 ((0 : Int)) ((a0.2 - (1 : Int)))).bind fun v8 =>
  some v8) a1).bind fun l9 =>
  if (!(l9.all id)) = true then some false else
  (lcM (fun x11 => some true) (fun x11 => some ((decide (x11.1 ≤ x11.2)))) (a1.zip ((cutL a1 (some ((1 : Int))) none)))).bind fun l12 =>
  some ((l12.all id))
def M_are_plants_of : List Nat := []
def R_are_plants_of (ds : List D) (x : Res) : Prop := ∃ (a0 : (Int × Int)) (a1 : List Int) (r : Bool), F_are_plants_of a0 a1 = some r ∧ ds = [D.tup [D.int a0.1, D.int a0.2], D.tup (a1.map D.int)] ∧ x = .v (D.bl r)
theorem len_are_plants_of : ∀ (vs : List V) (H : Hp) (Q : VK) (E : XK), spF K R_are_plants_of vs H Q E → vs.length = 2 := spF_len (by rintro _ _ ⟨_, _, _, _, rfl, _⟩; rfl)
theorem p_are_plants_of : ∀ ds x, R_are_plants_of ds x → Dm.St K M_are_plants_of (t_are_plants_of K (spF K R_is_between)) (ds.map Slot.val ++ List.replicate (N_are_plants_of.length - ds.length) .no) (RetF x) := by
  rintro _ _ ⟨a0, a1, r, h, rfl, rfl⟩
  show Dm.St K _ _ [.val (D.tup [D.int a0.1, D.int a0.2]), .val (D.tup (a1.map D.int)), .no, .no, .no] _
  unfold F_are_plants_of at h
  refine q_if (et_or (et_not (et_B (ev_cb (ea_cons (ev_var rfl) (ea_cons ev_ty ea_nil)) (d_isiTy (b := true) rfl (by decide +kernel))))) fun _ => (et_test (ev_op (ev_cb (ea_cons (ev_var rfl) ea_nil) (ty_lenT (φ := D.int))) ev_int d_gt))) (fun hc => ?kt1) (fun hc => ?kf2)
  case kt1 =>
    rw [if_pos hc] at h
    cases h
    refine st_ret ev_bl rfl
  case kf2 =>
    rw [if_neg (by rw [hc]; exact Bool.false_ne_true)] at h
    refine st_next ?_
    show Dm.St K _ _ [.val (D.tup [D.int a0.1, D.int a0.2]), .val (D.tup (a1.map D.int)), .no, .no, .no] _
    obtain ⟨l9, hl9, h⟩ := Option.bind_eq_some_iff.mp h
    refine q_if (et_not (et_B (ev_cb (ea_cons (ev_fzT (ew_lcT (φ := D.int) (ψ := D.bl) (it_anyT (ev_var rfl)) hl9 (fun _ => trivial) rfl ?k10)) ea_nil) d_all))) (fun hc => ?kt4) (fun hc => ?kf5)
    case k10 =>
      intro x7 hx
      refine turn1 (e' := _) (gd_name (by decide)) ?_ ?_
      · intro b hb
        cases hb
        refine et_yes
      · intro y hc hb
        obtain ⟨v8, hv8, hb⟩ := Option.bind_eq_some_iff.mp hb
        cases hb
        refine (ev_callF (ea_cons (ev_var rfl) (ea_cons ev_int (ea_cons (ev_op (ev_op (ev_var rfl) ev_int (d_ixT (by rfl))) ev_int d_sub) ea_nil))) ⟨_, _, _, _, hv8, rfl, rfl⟩)
    case kt4 =>
      rw [if_pos hc] at h
      cases h
      refine st_ret ev_bl rfl
    case kf5 =>
      rw [if_neg (by rw [hc]; exact Bool.false_ne_true)] at h
      refine st_next ?_
      show Dm.St K _ _ [.val (D.tup [D.int a0.1, D.int a0.2]), .val (D.tup (a1.map D.int)), .no, .no, .no] _
      obtain ⟨l12, hl12, h⟩ := Option.bind_eq_some_iff.mp h
      cases h
      refine st_ret (ev_cb (ea_cons (ev_fzT (ew_lcT (φ := (fun z1 : (Int × Int) => D.tup [D.int z1.1, D.int z1.2])) (ψ := D.bl) (it_zpT (φ := D.int) (ψ := D.int) (ea_cons (ev_var rfl) (ea_cons (ev_slTT (φ := D.int) (ev_var rfl) (eo_some ev_int) eo_none) ea_nil)) (.inr rfl) (.inr rfl)) hl12 (fun _ => trivial) rfl ?k13)) ea_nil) d_all) rfl
      case k13 =>
        intro x11 hx
        refine turn1 (e' := _) (gd_tupU (gs_cons (gd_name (by decide)) (gs_cons (gd_name (by decide)) gs_nil)) rfl) ?_ ?_
        · intro b hb
          cases hb
          refine et_yes
        · intro y hc hb
          cases hb
          refine (ev_op (ev_var rfl) (ev_var rfl) d_le)
def F_check_number (a0 : Int) : Option Unit :=
  (F_is_between a0 ((0 : Int)) ((60 : Int))).bind fun v4 =>
  if (!v4) = true then none else some ()
def M_check_number : List Nat := []
def R_check_number (ds : List D) (x : Res) : Prop := ∃ (a0 : Int) (r : Unit), F_check_number a0 = some r ∧ ds = [D.int a0] ∧ x = .v (D.non)
theorem len_check_number : ∀ (vs : List V) (H : Hp) (Q : VK) (E : XK), spF K R_check_number vs H Q E → vs.length = 1 := spF_len (by rintro _ _ ⟨_, _, _, rfl, _⟩; rfl)
theorem p_check_number : ∀ ds x, R_check_number ds x → Dm.St K M_check_number (t_check_number K (spF K R_is_between)) (ds.map Slot.val ++ List.replicate (N_check_number.length - ds.length) .no) (RetF x) := by
  rintro _ _ ⟨a0, r, h, rfl, rfl⟩
  show Dm.St K _ _ [.val (D.int a0)] _
  unfold F_check_number at h
  obtain ⟨v4, hv4, h⟩ := Option.bind_eq_some_iff.mp h
  refine st_if (et_not (et_B (ev_callF (ea_cons (ev_var rfl) (ea_cons ev_int (ea_cons ev_int ea_nil))) ⟨_, _, _, _, hv4, rfl, rfl⟩))) (fun hc => ?kt1) (fun hc => ?kf2)
  case kt1 =>
    rw [if_pos hc] at h
    cases h
  case kf2 =>
    rw [if_neg (by rw [hc]; exact Bool.false_ne_true)] at h
    refine st_next ?_
    cases h
    exact rfl
def F_bits_of (a0 : O_Grove) (a1 : Str) : Option (List Bool) :=
  (pyRng ((60 : Int))).bind fun l1 =>
  (lcM (fun x2 => some true) (fun x2 => (F_bears_in a0 a1 x2).bind fun v3 =>
  some v3) l1).bind fun l4 =>
  some l4
def M_bits_of : List Nat := []
def R_bits_of (C_Grove : Addr) (ds : List D) (x : Res) : Prop := ∃ (a0 : O_Grove) (a1 : Str) (r : List Bool), F_bits_of a0 a1 = some r ∧ ds = [dO_Grove C_Grove a0, D.str a1] ∧ x = .v (D.lst (r.map D.bl))
theorem len_bits_of {C_Grove : Addr} : ∀ (vs : List V) (H : Hp) (Q : VK) (E : XK), spF K (R_bits_of C_Grove) vs H Q E → vs.length = 2 := spF_len (by rintro _ _ ⟨_, _, _, _, rfl, _⟩; rfl)
theorem p_bits_of {C_Grove : Addr} : ∀ ds x, R_bits_of C_Grove ds x → Dm.St K M_bits_of (t_bits_of K (spF K (R_bears_in C_Grove))) (ds.map Slot.val ++ List.replicate (N_bits_of.length - ds.length) .no) (RetF x) := by
  rintro _ _ ⟨a0, a1, r, h, rfl, rfl⟩
  show Dm.St K _ _ [.val (dO_Grove C_Grove a0), .val (D.str a1), .no] _
  unfold F_bits_of at h
  obtain ⟨l1, hl1, h⟩ := Option.bind_eq_some_iff.mp h
  obtain ⟨l4, hl4, h⟩ := Option.bind_eq_some_iff.mp h
  cases h
  refine st_ret (ev_fzT (ew_lcT (φ := D.int) (ψ := D.bl) (it_rng (ea_cons ev_int ea_nil) hl1) hl4 (fun _ => trivial) rfl ?k5)) rfl
  case k5 =>
    intro x2 hx
    refine turn1 (e' := _) (gd_name (by decide)) ?_ ?_
    · intro b hb
      cases hb
      refine et_yes
    · intro y hc hb
      obtain ⟨v3, hv3, hb⟩ := Option.bind_eq_some_iff.mp hb
      cases hb
      refine (ev_callF (ea_cons (ev_var rfl) (ea_cons (ev_var rfl) (ea_cons (ev_var rfl) ea_nil))) ⟨_, _, _, _, hv3, rfl, rfl⟩)
def F_check_baskets (a0 : O_Grove) (a1 : Int) : Option Unit :=
  (F_check_grove a0).bind fun v1 =>
  (F_is_between a1 ((0 : Int)) ((9999 : Int))).bind fun v5 =>
  if (!v5) = true then none else some ()
def M_check_baskets : List Nat := []
def R_check_baskets (C_Grove : Addr) (ds : List D) (x : Res) : Prop := ∃ (a0 : O_Grove) (a1 : Int) (r : Unit), F_check_baskets a0 a1 = some r ∧ ds = [dO_Grove C_Grove a0, D.int a1] ∧ x = .v (D.non)
theorem len_check_baskets {C_Grove : Addr} : ∀ (vs : List V) (H : Hp) (Q : VK) (E : XK), spF K (R_check_baskets C_Grove) vs H Q E → vs.length = 2 := spF_len (by rintro _ _ ⟨_, _, _, _, rfl, _⟩; rfl)
theorem p_check_baskets {C_Grove : Addr} : ∀ ds x, R_check_baskets C_Grove ds x → Dm.St K M_check_baskets (t_check_baskets K (spF K (R_check_grove C_Grove)) (spF K R_is_between)) (ds.map Slot.val ++ List.replicate (N_check_baskets.length - ds.length) .no) (RetF x) := by
  rintro _ _ ⟨a0, a1, r, h, rfl, rfl⟩
  show Dm.St K _ _ [.val (dO_Grove C_Grove a0), .val (D.int a1)] _
  unfold F_check_baskets at h
  obtain ⟨v1, hv1, h⟩ := Option.bind_eq_some_iff.mp h
  refine q (st_drop (ev_callF (ea_cons (ev_var rfl) ea_nil) ⟨_, _, hv1, rfl, rfl⟩) ?_)
  show Dm.St K _ _ [.val (dO_Grove C_Grove a0), .val (D.int a1)] _
  obtain ⟨v5, hv5, h⟩ := Option.bind_eq_some_iff.mp h
  refine st_if (et_not (et_B (ev_callF (ea_cons (ev_var rfl) (ea_cons ev_int (ea_cons ev_int ea_nil))) ⟨_, _, _, _, hv5, rfl, rfl⟩))) (fun hc => ?kt2) (fun hc => ?kf3)
  case kt2 =>
    rw [if_pos hc] at h
    cases h
  case kf3 =>
    rw [if_neg (by rw [hc]; exact Bool.false_ne_true)] at h
    refine st_next ?_
    cases h
    exact rfl
def F_are_shifts (a0 : O_Grove) (a1 : List Int) : Option Bool :=
  (if (!true) = true then some true else (F_Grove_palms a0).bind fun v4 =>
  some ((decide ((a1.length : Int) ≠ (v4.length : Int))))).bind fun v5 =>
  if v5 = true then some false else
  (F_lengths_of a0).bind fun v7 =>
  (lcM (fun x8 => some true) (fun x8 => (F_is_between x8.1 ((0 : Int)) ((x8.2 - (1 : Int)))).bind fun v9 =>
  some v9) (a1.zip v7)).bind fun l10 =>
  some ((l10.all id))
def M_are_shifts : List Nat := []
def R_are_shifts (C_Grove : Addr) (ds : List D) (x : Res) : Prop := ∃ (a0 : O_Grove) (a1 : List Int) (r : Bool), F_are_shifts a0 a1 = some r ∧ ds = [dO_Grove C_Grove a0, D.tup (a1.map D.int)] ∧ x = .v (D.bl r)
theorem len_are_shifts {C_Grove : Addr} : ∀ (vs : List V) (H : Hp) (Q : VK) (E : XK), spF K (R_are_shifts C_Grove) vs H Q E → vs.length = 2 := spF_len (by rintro _ _ ⟨_, _, _, _, rfl, _⟩; rfl)
theorem p_are_shifts {C_Grove : Addr} (k_Grove : CK_Grove K C_Grove) : ∀ ds x, R_are_shifts C_Grove ds x → Dm.St K M_are_shifts (t_are_shifts K C_Grove (spF K (R_Grove_palms C_Grove)) (spF K (R_lengths_of C_Grove)) (spF K R_is_between)) (ds.map Slot.val ++ List.replicate (N_are_shifts.length - ds.length) .no) (RetF x) := by
  rintro _ _ ⟨a0, a1, r, h, rfl, rfl⟩
  show Dm.St K _ _ [.val (dO_Grove C_Grove a0), .val (D.tup (a1.map D.int)), .no, .no] _
  unfold F_are_shifts at h
  obtain ⟨v5, hv5, h⟩ := Option.bind_eq_some_iff.mp h
  refine q_if (et_orO (et_not (et_B (ev_cb (ea_cons (ev_var rfl) (ea_cons ev_ty ea_nil)) (d_isiTy (b := true) rfl (by decide +kernel))))) hv5 ?k6) (fun hc => ?kt1) (fun hc => ?kf2)
  case k6 =>
    intro hc hb
    obtain ⟨v4, hv4, hb⟩ := Option.bind_eq_some_iff.mp hb
    cases hb
    refine (et_test (ev_op (ev_cb (ea_cons (ev_var rfl) ea_nil) (ty_lenT (φ := D.int))) (ev_cb (ea_cons (ev_propF (ev_var rfl) ⟨_, _, hv4, rfl, rfl⟩) ea_nil) (ty_lenT (φ := (fun z1 : (Str × Int × Int × Int × Str × Int) => D.tup [D.str z1.1, D.int z1.2.1, D.int z1.2.2.1, D.int z1.2.2.2.1, D.str z1.2.2.2.2.1, D.int z1.2.2.2.2.2])))) d_neI))
  case kt1 =>
    rw [if_pos hc] at h
    cases h
    refine st_ret ev_bl rfl
  case kf2 =>
    rw [if_neg (by rw [hc]; exact Bool.false_ne_true)] at h
    refine st_next ?_
    show Dm.St K _ _ [.val (dO_Grove C_Grove a0), .val (D.tup (a1.map D.int)), .no, .no] _
    obtain ⟨v7, hv7, h⟩ := Option.bind_eq_some_iff.mp h
    obtain ⟨l10, hl10, h⟩ := Option.bind_eq_some_iff.mp h
    cases h
    refine st_ret (ev_cb (ea_cons (ev_fzT (ew_lcT (φ := (fun z1 : (Int × Int) => D.tup [D.int z1.1, D.int z1.2])) (ψ := D.bl) (it_zpT (φ := D.int) (ψ := D.int) (ea_cons (ev_var rfl) (ea_cons (ev_callF (ea_cons (ev_var rfl) ea_nil) ⟨_, _, hv7, rfl, rfl⟩) ea_nil)) (.inr rfl) (.inl rfl)) hl10 (fun _ => trivial) rfl ?k11)) ea_nil) d_all) rfl
    case k11 =>
      intro x8 hx
      refine turn1 (e' := _) (gd_tupU (gs_cons (gd_name (by decide)) (gs_cons (gd_name (by decide)) gs_nil)) rfl) ?_ ?_
      · intro b hb
        cases hb
        refine et_yes
      · intro y hc hb
        obtain ⟨v9, hv9, hb⟩ := Option.bind_eq_some_iff.mp hb
        cases hb
        refine (ev_callF (ea_cons (ev_var rfl) (ea_cons ev_int (ea_cons (ev_op (ev_var rfl) ev_int d_sub) ea_nil))) ⟨_, _, _, _, hv9, rfl, rfl⟩)
def F_shift_count (a0 : O_Grove) : Option Int :=
  (F_lengths_of a0).bind fun v5 =>
  (forL (σ := Int) (fun x7 s6 => (pyMul s6 x7).bind fun v9 =>
  some v9) v5 ((1 : Int))).bind fun s8 =>
  some s8
def M_shift_count : List Nat := []
def R_shift_count (C_Grove : Addr) (ds : List D) (x : Res) : Prop := ∃ (a0 : O_Grove) (r : Int), F_shift_count a0 = some r ∧ ds = [dO_Grove C_Grove a0] ∧ x = .v (D.int r)
theorem len_shift_count {C_Grove : Addr} : ∀ (vs : List V) (H : Hp) (Q : VK) (E : XK), spF K (R_shift_count C_Grove) vs H Q E → vs.length = 1 := spF_len (by rintro _ _ ⟨_, _, _, rfl, _⟩; rfl)
theorem p_shift_count {C_Grove : Addr} : ∀ ds x, R_shift_count C_Grove ds x → Dm.St K M_shift_count (t_shift_count K (spF K (R_lengths_of C_Grove))) (ds.map Slot.val ++ List.replicate (N_shift_count.length - ds.length) .no) (RetF x) := by
  rintro _ _ ⟨a0, r, h, rfl, rfl⟩
  show Dm.St K _ _ [.val (dO_Grove C_Grove a0), .no, .no] _
  unfold F_shift_count at h
  refine q (st_asg ev_int ?_)
  show Dm.St K _ _ [.val (dO_Grove C_Grove a0), .val (D.int ((1 : Int))), .no] _
  obtain ⟨v5, hv5, h⟩ := Option.bind_eq_some_iff.mp h
  obtain ⟨s8, hs8, h⟩ := Option.bind_eq_some_iff.mp h
  refine q (st_forL (vs := List.range 60) (Mb := M_shift_count) (φ := D.int) (J := fun s6 : Int => [.val (dO_Grove C_Grove a0), .val (D.int s6), .no]) (it_anyL (ev_callF (ea_cons (ev_var rfl) ea_nil) ⟨_, _, hv5, rfl, rfl⟩)) hs8 (fun _ z => z) (.same (.same (.same .nil))) (fun _ _ _ _ => trivial) ?kb1 ?kn2)
  case kb1 =>
    intro x7 hx s6 s' hb
    refine ⟨_, (gd_name (by decide)), ?_⟩
    obtain ⟨v9, hv9, hb⟩ := Option.bind_eq_some_iff.mp hb
    refine st_asg (ev_op (ev_var rfl) (ev_var rfl) (ty_mul hv9)) ?_
    cases hb
    exact (.same (.same (.drop .nil)))
  case kn2 =>
    show Dm.St K _ _ [.val (dO_Grove C_Grove a0), .val (D.int s8), .no] _
    cases h
    refine st_ret (ev_var rfl) rfl
def F_all_shifts (a0 : O_Grove) : Option (List (List Int)) :=
  (F_lengths_of a0).bind fun v5 =>
  (forL (σ := (List (List Int))) (fun x7 s6 => (forL (σ := (List (List Int))) (fun x14 s13 => (pyRng x7).bind fun l16 =>
  (lcM (fun x17 => some true) (fun x17 => (pySz (x14 ++ [x17])).bind fun v18 =>
  some v18) l16).bind fun l19 =>
  (pyExt s13 l19).bind fun l21 =>
  some l21) s6 (([] : List (List Int)))).bind fun s15 =>
  some s15) v5 (([([] : List Int)] : List (List Int)))).bind fun s8 =>
  some s8
def M_all_shifts : List Nat := [3]
def R_all_shifts (C_Grove : Addr) (ds : List D) (x : Res) : Prop := ∃ (a0 : O_Grove) (r : List (List Int)), F_all_shifts a0 = some r ∧ ds = [dO_Grove C_Grove a0] ∧ x = .v (D.lst (r.map (fun z1 : List Int => D.tup (z1.map D.int))))
theorem len_all_shifts {C_Grove : Addr} : ∀ (vs : List V) (H : Hp) (Q : VK) (E : XK), spF K (R_all_shifts C_Grove) vs H Q E → vs.length = 1 := spF_len (by rintro _ _ ⟨_, _, _, rfl, _⟩; rfl)
theorem p_all_shifts {C_Grove : Addr} : ∀ ds x, R_all_shifts C_Grove ds x → Dm.St K M_all_shifts (t_all_shifts K (spF K (R_lengths_of C_Grove))) (ds.map Slot.val ++ List.replicate (N_all_shifts.length - ds.length) .no) (RetF x) := by
  rintro _ _ ⟨a0, r, h, rfl, rfl⟩
  show Dm.St K _ _ [.val (dO_Grove C_Grove a0), .no, .no, .no, .no, .no] _
  unfold F_all_shifts at h
  refine q (st_asg (ev_fzT (ew_is (ew_lst (ea_cons (ev_is (ev_tup ea_nil (Nat.le_of_ble_eq_true rfl)) (by rfl)) ea_nil) (Nat.le_of_ble_eq_true rfl)) (by rfl))) ?_)
  show Dm.St K _ _ [.val (dO_Grove C_Grove a0), .val (D.lst ((([([] : List Int)] : List (List Int))).map (fun z1 : List Int => D.tup (z1.map D.int)))), .no, .no, .no, .no] _
  obtain ⟨v5, hv5, h⟩ := Option.bind_eq_some_iff.mp h
  obtain ⟨s8, hs8, h⟩ := Option.bind_eq_some_iff.mp h
  refine q (st_forL (vs := List.range 60) (Mb := M_all_shifts) (φ := D.int) (J := fun s6 : (List (List Int)) => [.val (dO_Grove C_Grove a0), .val (D.lst (s6.map (fun z1 : List Int => D.tup (z1.map D.int)))), .no, .no, .no, .no]) (it_anyL (ev_callF (ea_cons (ev_var rfl) ea_nil) ⟨_, _, hv5, rfl, rfl⟩)) hs8 (fun _ z => z) (.same (.same (.same (.same (.same (.same .nil)))))) (fun _ _ _ _ => trivial) ?kb1 ?kn2)
  case kb1 =>
    intro x7 hx s6 s' hb
    refine ⟨_, (gd_name (by decide)), ?_⟩
    refine q (st_asgW (by decide) (by decide) (ew_is (ew_lst ea_nil (Nat.le_of_ble_eq_true rfl)) (by rfl)) ?_)
    show Dm.St K _ _ [.val (dO_Grove C_Grove a0), .val (D.lst (s6.map (fun z1 : List Int => D.tup (z1.map D.int)))), .val (D.int x7), .own (odL (fun z1 : List Int => D.tup (z1.map D.int)) (([] : List (List Int)))), .no, .no] _
    obtain ⟨s15, hs15, hb⟩ := Option.bind_eq_some_iff.mp hb
    refine q (st_forL (vs := List.range 60) (Mb := M_all_shifts) (φ := (fun z1 : List Int => D.tup (z1.map D.int))) (J := fun s13 : (List (List Int)) => [.val (dO_Grove C_Grove a0), .val (D.lst (s6.map (fun z1 : List Int => D.tup (z1.map D.int)))), .val (D.int x7), .own (odL (fun z1 : List Int => D.tup (z1.map D.int)) s13), .no, .no]) (it_anyL (ev_var rfl)) hs15 (fun _ z => z) (.same (.same (.same (.same (.same (.same .nil)))))) (fun _ _ _ _ => trivial) ?kb9 ?kn10)
    case kb9 =>
      intro x14 hx s13 s' hb
      refine ⟨_, (gd_name (by decide)), ?_⟩
      obtain ⟨l16, hl16, hb⟩ := Option.bind_eq_some_iff.mp hb
      obtain ⟨l19, hl19, hb⟩ := Option.bind_eq_some_iff.mp hb
      obtain ⟨l21, hl21, hb⟩ := Option.bind_eq_some_iff.mp hb
      refine st_extT (φ := (fun z1 : List Int => D.tup (z1.map D.int))) (zs := l19) (M' := []) (pl_var rfl) (ev_fzT (ew_lcT (φ := D.int) (ψ := (fun z1 : List Int => D.tup (z1.map D.int))) (it_rng (ea_cons (ev_var rfl) ea_nil) hl16) hl19 (fun _ => trivial) rfl ?k20)) hl21 (by decide) (by decide) (by decide) rfl rfl rfl ?nx22
      case k20 =>
        intro x17 hx
        refine turn1 (e' := _) (gd_name (by decide)) ?_ ?_
        · intro b hb
          cases hb
          refine et_yes
        · intro y hc hb
          obtain ⟨v18, hv18, hb⟩ := Option.bind_eq_some_iff.mp hb
          cases hb
          refine (ev_tupT (φ := D.int) (ea_starT (ev_var rfl) (ea_cons (ev_var rfl) ea_nil)) hv18 (by simp))
      case nx22 =>
        cases hb
        exact (.same (.same (.same (.same (.drop (.same .nil))))))
    case kn10 =>
      show Dm.St K _ _ [.val (dO_Grove C_Grove a0), .val (D.lst (s6.map (fun z1 : List Int => D.tup (z1.map D.int)))), .val (D.int x7), .own (odL (fun z1 : List Int => D.tup (z1.map D.int)) s15), .no, .no] _
      refine st_fz (i := 3) rfl fz_odL ?_
      show Dm.St K _ _ [.val (dO_Grove C_Grove a0), .val (D.lst (s6.map (fun z1 : List Int => D.tup (z1.map D.int)))), .val (D.int x7), .val (D.lst (s15.map (fun z1 : List Int => D.tup (z1.map D.int)))), .no, .no] _
      refine st_asg (ev_var rfl) ?_
      cases hb
      exact (.same (.same (.drop (.drop (.same (.same .nil))))))
  case kn2 =>
    show Dm.St K _ _ [.val (dO_Grove C_Grove a0), .val (D.lst (s8.map (fun z1 : List Int => D.tup (z1.map D.int)))), .no, .no, .no, .no] _
    cases h
    refine st_ret (ev_var rfl) rfl
def F_rows_shifted (a0 : O_Grove) : Option (List (List (List Int))) :=
  (F_Grove_palm_names a0).bind fun v5 =>
  (F_lengths_of a0).bind fun v6 =>
  (forL (σ := (List (List (List Int)))) (fun x8 s7 => (F_Grove_years_of a0 x8.1).bind fun v10 =>
  (F_Grove_dates_of a0 x8.1).bind fun v11 =>
  (pyRng x8.2).bind fun l16 =>
  (forL (σ := (List (List Int))) (fun x18 s17 => (pyRng ((60 : Int))).bind fun l20 =>
  (lcM (fun x21 => some true) (fun x21 => (pyMod ((x21 + x18)) x8.2).bind fun v22 =>
  (pyIxS (((v10, v11)).1) v22).bind fun v23 =>
  (pyMul (((v10, v11)).2) ((if (decide (v23 = ("1" : Str))) = true then 1 else 0))).bind fun v24 =>
  some v24) l20).bind fun l25 =>
  (pyApp s17 l25).bind fun l27 =>
  some l27) l16 (([] : List (List Int)))).bind fun s19 =>
  (pyApp s7 s19).bind fun l29 =>
  some l29) (v5.zip v6) (([] : List (List (List Int))))).bind fun s9 =>
  some s9
def M_rows_shifted : List Nat := [1, 6]
def R_rows_shifted (C_Grove : Addr) (ds : List D) (x : Res) : Prop := ∃ (a0 : O_Grove) (r : List (List (List Int))), F_rows_shifted a0 = some r ∧ ds = [dO_Grove C_Grove a0] ∧ x = .v (D.lst (r.map (fun z2 : List (List Int) => D.lst (z2.map (fun z1 : List Int => D.lst (z1.map D.int))))))
theorem len_rows_shifted {C_Grove : Addr} : ∀ (vs : List V) (H : Hp) (Q : VK) (E : XK), spF K (R_rows_shifted C_Grove) vs H Q E → vs.length = 1 := spF_len (by rintro _ _ ⟨_, _, _, rfl, _⟩; rfl)
theorem p_rows_shifted {C_Grove : Addr} (k_Grove : CK_Grove K C_Grove) : ∀ ds x, R_rows_shifted C_Grove ds x → Dm.St K M_rows_shifted (t_rows_shifted K C_Grove (spF K (R_lengths_of C_Grove)) (spF K (R_Grove_palm_names C_Grove)) (spF K (R_Grove_dates_of C_Grove)) (spF K (R_Grove_years_of C_Grove))) (ds.map Slot.val ++ List.replicate (N_rows_shifted.length - ds.length) .no) (RetF x) := by
  rintro _ _ ⟨a0, r, h, rfl, rfl⟩
  show Dm.St K _ _ [.val (dO_Grove C_Grove a0), .no, .no, .no, .no, .no, .no, .no, .no] _
  unfold F_rows_shifted at h
  refine q (st_asgW (by decide) (by decide) (ew_is (ew_lst ea_nil (Nat.le_of_ble_eq_true rfl)) (by rfl)) ?_)
  show Dm.St K _ _ [.val (dO_Grove C_Grove a0), .own (odL (fun z2 : List (List Int) => D.lst (z2.map (fun z1 : List Int => D.lst (z1.map D.int)))) (([] : List (List (List Int))))), .no, .no, .no, .no, .no, .no, .no] _
  obtain ⟨v5, hv5, h⟩ := Option.bind_eq_some_iff.mp h
  obtain ⟨v6, hv6, h⟩ := Option.bind_eq_some_iff.mp h
  obtain ⟨s9, hs9, h⟩ := Option.bind_eq_some_iff.mp h
  refine q (st_forL (vs := List.range 60) (Mb := M_rows_shifted) (φ := (fun z1 : (Str × Int) => D.tup [D.str z1.1, D.int z1.2])) (J := fun s7 : (List (List (List Int))) => [.val (dO_Grove C_Grove a0), .own (odL (fun z2 : List (List Int) => D.lst (z2.map (fun z1 : List Int => D.lst (z1.map D.int)))) s7), .no, .no, .no, .no, .no, .no, .no]) (it_zpT (φ := D.str) (ψ := D.int) (ea_cons (ev_methF (ev_var rfl) (by decide +kernel) ea_nil ⟨_, _, hv5, rfl, rfl⟩) (ea_cons (ev_callF (ea_cons (ev_var rfl) ea_nil) ⟨_, _, hv6, rfl, rfl⟩) ea_nil)) (.inl rfl) (.inl rfl)) hs9 (fun _ z => z) (.same (.same (.same (.same (.same (.same (.same (.same (.same .nil))))))))) (fun _ _ _ _ => trivial) ?kb1 ?kn2)
  case kb1 =>
    intro x8 hx s7 s' hb
    refine ⟨_, (gd_tupU (gs_cons (gd_name (by decide)) (gs_cons (gd_name (by decide)) gs_nil)) rfl), ?_⟩
    obtain ⟨v10, hv10, hb⟩ := Option.bind_eq_some_iff.mp hb
    obtain ⟨v11, hv11, hb⟩ := Option.bind_eq_some_iff.mp hb
    refine q (st_asgG (vs := List.range 60) (ev_tup (ea_cons (ev_methF (ev_var rfl) (by decide +kernel) (ea_cons (ev_var rfl) ea_nil) ⟨_, _, _, hv10, rfl, rfl⟩) (ea_cons (ev_methF (ev_var rfl) (by decide +kernel) (ea_cons (ev_var rfl) ea_nil) ⟨_, _, _, hv11, rfl, rfl⟩) ea_nil)) (Nat.le_of_ble_eq_true rfl)) (gd_tupU (gs_cons (gd_name (by decide)) (gs_cons (gd_name (by decide)) gs_nil)) rfl) ?_)
    show Dm.St K _ _ [.val (dO_Grove C_Grove a0), .own (odL (fun z2 : List (List Int) => D.lst (z2.map (fun z1 : List Int => D.lst (z1.map D.int)))) s7), .val (D.str x8.1), .val (D.int x8.2), .val (D.str (((v10, v11)).1)), .val (D.int (((v10, v11)).2)), .no, .no, .no] _
    refine q (st_asgW (by decide) (by decide) (ew_is (ew_lst ea_nil (Nat.le_of_ble_eq_true rfl)) (by rfl)) ?_)
    show Dm.St K _ _ [.val (dO_Grove C_Grove a0), .own (odL (fun z2 : List (List Int) => D.lst (z2.map (fun z1 : List Int => D.lst (z1.map D.int)))) s7), .val (D.str x8.1), .val (D.int x8.2), .val (D.str (((v10, v11)).1)), .val (D.int (((v10, v11)).2)), .own (odL (fun z1 : List Int => D.lst (z1.map D.int)) (([] : List (List Int)))), .no, .no] _
    obtain ⟨l16, hl16, hb⟩ := Option.bind_eq_some_iff.mp hb
    obtain ⟨s19, hs19, hb⟩ := Option.bind_eq_some_iff.mp hb
    refine q (st_forL (vs := List.range 60) (Mb := M_rows_shifted) (φ := D.int) (J := fun s17 : (List (List Int)) => [.val (dO_Grove C_Grove a0), .own (odL (fun z2 : List (List Int) => D.lst (z2.map (fun z1 : List Int => D.lst (z1.map D.int)))) s7), .val (D.str x8.1), .val (D.int x8.2), .val (D.str (((v10, v11)).1)), .val (D.int (((v10, v11)).2)), .own (odL (fun z1 : List Int => D.lst (z1.map D.int)) s17), .no, .no]) (it_rng (ea_cons (ev_var rfl) ea_nil) hl16) hs19 (fun _ z => z) (.same (.same (.same (.same (.same (.same (.same (.same (.same .nil))))))))) (fun _ _ _ _ => trivial) ?kb12 ?kn13)
    case kb12 =>
      intro x18 hx s17 s' hb
      refine ⟨_, (gd_name (by decide)), ?_⟩
      obtain ⟨l20, hl20, hb⟩ := Option.bind_eq_some_iff.mp hb
      obtain ⟨l25, hl25, hb⟩ := Option.bind_eq_some_iff.mp hb
      obtain ⟨l27, hl27, hb⟩ := Option.bind_eq_some_iff.mp hb
      refine st_appT (φ := (fun z1 : List Int => D.lst (z1.map D.int))) (x := l25) (M' := []) (pl_var rfl) (ev_fzT (ew_lcT (φ := D.int) (ψ := D.int) (it_rng (ea_cons ev_int ea_nil) hl20) hl25 (fun _ => trivial) rfl ?k26)) hl27 (by decide) (by decide) (by decide) rfl rfl rfl ?nx28
      case k26 =>
        intro x21 hx
        refine turn1 (e' := _) (gd_name (by decide)) ?_ ?_
        · intro b hb
          cases hb
          refine et_yes
        · intro y hc hb
          obtain ⟨v22, hv22, hb⟩ := Option.bind_eq_some_iff.mp hb
          obtain ⟨v23, hv23, hb⟩ := Option.bind_eq_some_iff.mp hb
          obtain ⟨v24, hv24, hb⟩ := Option.bind_eq_some_iff.mp hb
          cases hb
          refine (ev_op (ev_var rfl) (ev_cb (ea_cons (ev_op (ev_op (ev_var rfl) (ev_op (ev_op (ev_var rfl) (ev_var rfl) d_add) (ev_var rfl) (ty_mod hv22)) (ty_ixS hv23)) ev_str d_eqS) ea_nil) d_intB) (ty_mul hv24))
      case nx28 =>
        cases hb
        exact (.same (.same (.same (.same (.same (.same (.same (.drop (.same .nil)))))))))
    case kn13 =>
      show Dm.St K _ _ [.val (dO_Grove C_Grove a0), .own (odL (fun z2 : List (List Int) => D.lst (z2.map (fun z1 : List Int => D.lst (z1.map D.int)))) s7), .val (D.str x8.1), .val (D.int x8.2), .val (D.str (((v10, v11)).1)), .val (D.int (((v10, v11)).2)), .own (odL (fun z1 : List Int => D.lst (z1.map D.int)) s19), .no, .no] _
      refine st_fz (i := 6) rfl fz_odL ?_
      show Dm.St K _ _ [.val (dO_Grove C_Grove a0), .own (odL (fun z2 : List (List Int) => D.lst (z2.map (fun z1 : List Int => D.lst (z1.map D.int)))) s7), .val (D.str x8.1), .val (D.int x8.2), .val (D.str (((v10, v11)).1)), .val (D.int (((v10, v11)).2)), .val (D.lst (s19.map (fun z1 : List Int => D.lst (z1.map D.int)))), .no, .no] _
      obtain ⟨l29, hl29, hb⟩ := Option.bind_eq_some_iff.mp hb
      refine st_appT (φ := (fun z2 : List (List Int) => D.lst (z2.map (fun z1 : List Int => D.lst (z1.map D.int))))) (x := s19) (M' := []) (pl_var rfl) (ev_var rfl) hl29 (by decide) (by decide) (by decide) rfl rfl rfl ?_
      cases hb
      exact (.same (.same (.drop (.drop (.drop (.drop (.drop (.same (.same .nil)))))))))
  case kn2 =>
    show Dm.St K _ _ [.val (dO_Grove C_Grove a0), .own (odL (fun z2 : List (List Int) => D.lst (z2.map (fun z1 : List Int => D.lst (z1.map D.int)))) s9), .no, .no, .no, .no, .no, .no, .no] _
    refine st_fz (i := 1) rfl fz_odL ?_
    show Dm.St K _ _ [.val (dO_Grove C_Grove a0), .val (D.lst (s9.map (fun z2 : List (List Int) => D.lst (z2.map (fun z1 : List Int => D.lst (z1.map D.int)))))), .no, .no, .no, .no, .no, .no, .no] _
    cases h
    refine st_ret (ev_var rfl) rfl
def F_palm_in (a0 : List Str) : Option (Option ((Int × Int × Int × Str × Int))) :=
  (lcM (fun x1 => some true) (fun x1 => (F_read_integer x1).bind fun v2 =>
  some v2) ((cutL a0 none (some ((3 : Int)))))).bind fun l3 =>
  (un3 l3).bind fun p5 =>
  (pyIx a0 ((4 : Int))).bind fun v6 =>
  (F_read_integer v6).bind fun v7 =>
  (p5.1).bind fun u11 =>
  (F_is_between u11 ((1 : Int)) ((60 : Int))).bind fun v12 =>
  (if (!v12) = true then some true else (p5.2.1).bind fun u13 =>
  (F_is_day u13).bind fun v14 =>
  (if (!v14) = true then some true else (p5.2.2).bind fun u15 =>
  (F_is_day u15).bind fun v16 =>
  (if (!v16) = true then some true else (p5.2.1).bind fun u17 =>
  (p5.2.2).bind fun u18 =>
  some ((decide (u18 < u17)))).bind fun v19 =>
  some v19).bind fun v21 =>
  some v21).bind fun v23 =>
  if v23 = true then some ((none : Option ((Int × Int × Int × Str × Int)))) else
  (pyIx a0 ((3 : Int))).bind fun v28 =>
  (F_is_pattern v28).bind fun v29 =>
  (if (!v29) = true then some true else (v7).bind fun u30 =>
  (F_is_between u30 ((1 : Int)) ((99 : Int))).bind fun v31 =>
  some ((!v31))).bind fun v32 =>
  if v32 = true then some ((none : Option ((Int × Int × Int × Str × Int)))) else
  (p5.1).bind fun u34 =>
  (p5.2.1).bind fun u35 =>
  (p5.2.2).bind fun u36 =>
  (pyIx a0 ((3 : Int))).bind fun v37 =>
  (v7).bind fun u38 =>
  some ((some ((u34, u35, u36, v37, u38))))
def M_palm_in : List Nat := []
def R_palm_in (ds : List D) (x : Res) : Prop := ∃ (a0 : List Str) (r : Option ((Int × Int × Int × Str × Int))), F_palm_in a0 = some r ∧ ds = [D.lst (a0.map D.str)] ∧ x = .v (optD (fun z1 : (Int × Int × Int × Str × Int) => D.tup [D.int z1.1, D.int z1.2.1, D.int z1.2.2.1, D.str z1.2.2.2.1, D.int z1.2.2.2.2]) r)
theorem len_palm_in : ∀ (vs : List V) (H : Hp) (Q : VK) (E : XK), spF K R_palm_in vs H Q E → vs.length = 1 := spF_len (by rintro _ _ ⟨_, _, _, rfl, _⟩; rfl)
theorem p_palm_in : ∀ ds x, R_palm_in ds x → Dm.St K M_palm_in (t_palm_in K (spF K R_read_integer) (spF K R_is_between) (spF K R_is_day) (spF K R_is_pattern)) (ds.map Slot.val ++ List.replicate (N_palm_in.length - ds.length) .no) (RetF x) := by
  rintro _ _ ⟨a0, r, h, rfl, rfl⟩
  show Dm.St K _ _ [.val (D.lst (a0.map D.str)), .no, .no, .no, .no, .no] _
  unfold F_palm_in at h
  obtain ⟨l3, hl3, h⟩ := Option.bind_eq_some_iff.mp h
  obtain ⟨p5, hp5, h⟩ := Option.bind_eq_some_iff.mp h
  refine q (st_asgG (vs := List.range 60) (ev_is (ev_fzT (ew_lcT (φ := D.str) (ψ := (fun z1 : Option Int => optD D.int z1)) (it_anyL (ev_slLT (φ := D.str) (ev_var rfl) eo_none (eo_some ev_int))) hl3 (fun _ => trivial) rfl ?k4)) (by rw [un3_eq hp5]; rfl)) (gd_lstU (gs_cons (gd_name (by decide)) (gs_cons (gd_name (by decide)) (gs_cons (gd_name (by decide)) gs_nil))) rfl) ?nx40)
  case k4 =>
    intro x1 hx
    refine turn1 (e' := _) (gd_name (by decide)) ?_ ?_
    · intro b hb
      cases hb
      refine et_yes
    · intro y hc hb
      obtain ⟨v2, hv2, hb⟩ := Option.bind_eq_some_iff.mp hb
      cases hb
      refine (ev_callF (ea_cons (ev_var rfl) ea_nil) ⟨_, _, hv2, rfl, rfl⟩)
  case nx40 =>
    show Dm.St K _ _ [.val (D.lst (a0.map D.str)), .val (optD D.int p5.1), .val (optD D.int p5.2.1), .val (optD D.int p5.2.2), .no, .no] _
    obtain ⟨v6, hv6, h⟩ := Option.bind_eq_some_iff.mp h
    obtain ⟨v7, hv7, h⟩ := Option.bind_eq_some_iff.mp h
    refine q (st_asg (ev_callF (ea_cons (ev_op (ev_var rfl) ev_int (ty_ixL (φ := D.str) hv6)) ea_nil) ⟨_, _, hv7, rfl, rfl⟩) ?_)
    show Dm.St K _ _ [.val (D.lst (a0.map D.str)), .val (optD D.int p5.1), .val (optD D.int p5.2.1), .val (optD D.int p5.2.2), .val (optD D.int v7), .no] _
    obtain ⟨u11, hu11, h⟩ := Option.bind_eq_some_iff.mp h
    obtain ⟨v12, hv12, h⟩ := Option.bind_eq_some_iff.mp h
    obtain ⟨v23, hv23, h⟩ := Option.bind_eq_some_iff.mp h
    refine q_if (et_orO (et_not (et_B (ev_callF (ea_cons (ev_someO (φ := D.int) (ev_var rfl) hu11) (ea_cons ev_int (ea_cons ev_int ea_nil))) ⟨_, _, _, _, hv12, rfl, rfl⟩))) hv23 ?k24) (fun hc => ?kt8) (fun hc => ?kf9)
    case k24 =>
      intro hc hb
      obtain ⟨u13, hu13, hb⟩ := Option.bind_eq_some_iff.mp hb
      obtain ⟨v14, hv14, hb⟩ := Option.bind_eq_some_iff.mp hb
      obtain ⟨v21, hv21, hb⟩ := Option.bind_eq_some_iff.mp hb
      cases hb
      refine (et_orO (et_not (et_B (ev_callF (ea_cons (ev_someO (φ := D.int) (ev_var rfl) hu13) ea_nil) ⟨_, _, hv14, rfl, rfl⟩))) hv21 ?k22)
      case k22 =>
        intro hc hb
        obtain ⟨u15, hu15, hb⟩ := Option.bind_eq_some_iff.mp hb
        obtain ⟨v16, hv16, hb⟩ := Option.bind_eq_some_iff.mp hb
        obtain ⟨v19, hv19, hb⟩ := Option.bind_eq_some_iff.mp hb
        cases hb
        refine (et_orO (et_not (et_B (ev_callF (ea_cons (ev_someO (φ := D.int) (ev_var rfl) hu15) ea_nil) ⟨_, _, hv16, rfl, rfl⟩))) hv19 ?k20)
        case k20 =>
          intro hc hb
          obtain ⟨u17, hu17, hb⟩ := Option.bind_eq_some_iff.mp hb
          obtain ⟨u18, hu18, hb⟩ := Option.bind_eq_some_iff.mp hb
          cases hb
          refine (et_test (ev_op (ev_someO (φ := D.int) (ev_var rfl) hu17) (ev_someO (φ := D.int) (ev_var rfl) hu18) d_gt))
    case kt8 =>
      rw [if_pos hc] at h
      cases h
      refine st_ret ev_non rfl
    case kf9 =>
      rw [if_neg (by rw [hc]; exact Bool.false_ne_true)] at h
      refine st_next ?_
      show Dm.St K _ _ [.val (D.lst (a0.map D.str)), .val (optD D.int p5.1), .val (optD D.int p5.2.1), .val (optD D.int p5.2.2), .val (optD D.int v7), .no] _
      obtain ⟨v28, hv28, h⟩ := Option.bind_eq_some_iff.mp h
      obtain ⟨v29, hv29, h⟩ := Option.bind_eq_some_iff.mp h
      obtain ⟨v32, hv32, h⟩ := Option.bind_eq_some_iff.mp h
      refine q_if (et_orO (et_not (et_B (ev_callF (ea_cons (ev_op (ev_var rfl) ev_int (ty_ixL (φ := D.str) hv28)) ea_nil) ⟨_, _, hv29, rfl, rfl⟩))) hv32 ?k33) (fun hc => ?kt25) (fun hc => ?kf26)
      case k33 =>
        intro hc hb
        obtain ⟨u30, hu30, hb⟩ := Option.bind_eq_some_iff.mp hb
        obtain ⟨v31, hv31, hb⟩ := Option.bind_eq_some_iff.mp hb
        cases hb
        refine (et_not (et_B (ev_callF (ea_cons (ev_someO (φ := D.int) (ev_var rfl) hu30) (ea_cons ev_int (ea_cons ev_int ea_nil))) ⟨_, _, _, _, hv31, rfl, rfl⟩)))
      case kt25 =>
        rw [if_pos hc] at h
        cases h
        refine st_ret ev_non rfl
      case kf26 =>
        rw [if_neg (by rw [hc]; exact Bool.false_ne_true)] at h
        refine st_next ?_
        show Dm.St K _ _ [.val (D.lst (a0.map D.str)), .val (optD D.int p5.1), .val (optD D.int p5.2.1), .val (optD D.int p5.2.2), .val (optD D.int v7), .no] _
        obtain ⟨u34, hu34, h⟩ := Option.bind_eq_some_iff.mp h
        obtain ⟨u35, hu35, h⟩ := Option.bind_eq_some_iff.mp h
        obtain ⟨u36, hu36, h⟩ := Option.bind_eq_some_iff.mp h
        obtain ⟨v37, hv37, h⟩ := Option.bind_eq_some_iff.mp h
        obtain ⟨u38, hu38, h⟩ := Option.bind_eq_some_iff.mp h
        cases h
        refine st_ret (ev_tup (ea_cons (ev_someO (φ := D.int) (ev_var rfl) hu34) (ea_cons (ev_someO (φ := D.int) (ev_var rfl) hu35) (ea_cons (ev_someO (φ := D.int) (ev_var rfl) hu36) (ea_cons (ev_op (ev_var rfl) ev_int (ty_ixL (φ := D.str) hv37)) (ea_cons (ev_someO (φ := D.int) (ev_var rfl) hu38) ea_nil))))) (Nat.le_of_ble_eq_true rfl)) rfl
def F_male_in (a0 : List Str) : Option (Option ((Int × Int × Int))) :=
  (lcM (fun x1 => some true) (fun x1 => (F_read_integer x1).bind fun v2 =>
  some v2) a0).bind fun l3 =>
  (un3 l3).bind fun p5 =>
  (p5.1).bind fun u9 =>
  (F_is_day u9).bind fun v10 =>
  (if (!v10) = true then some true else (p5.2.1).bind fun u11 =>
  (F_is_between u11 ((1 : Int)) ((20 : Int))).bind fun v12 =>
  (if (!v12) = true then some true else (p5.2.2).bind fun u13 =>
  (F_is_between u13 ((0 : Int)) ((30 : Int))).bind fun v14 =>
  some ((!v14))).bind fun v15 =>
  some v15).bind fun v17 =>
  if v17 = true then some ((none : Option ((Int × Int × Int)))) else
  (p5.1).bind fun u19 =>
  (p5.2.1).bind fun u20 =>
  (p5.2.2).bind fun u21 =>
  some ((some ((u19, u20, u21))))
def M_male_in : List Nat := []
def R_male_in (ds : List D) (x : Res) : Prop := ∃ (a0 : List Str) (r : Option ((Int × Int × Int))), F_male_in a0 = some r ∧ ds = [D.lst (a0.map D.str)] ∧ x = .v (optD (fun z1 : (Int × Int × Int) => D.tup [D.int z1.1, D.int z1.2.1, D.int z1.2.2]) r)
theorem len_male_in : ∀ (vs : List V) (H : Hp) (Q : VK) (E : XK), spF K R_male_in vs H Q E → vs.length = 1 := spF_len (by rintro _ _ ⟨_, _, _, rfl, _⟩; rfl)
theorem p_male_in : ∀ ds x, R_male_in ds x → Dm.St K M_male_in (t_male_in K (spF K R_read_integer) (spF K R_is_day) (spF K R_is_between)) (ds.map Slot.val ++ List.replicate (N_male_in.length - ds.length) .no) (RetF x) := by
  rintro _ _ ⟨a0, r, h, rfl, rfl⟩
  show Dm.St K _ _ [.val (D.lst (a0.map D.str)), .no, .no, .no, .no] _
  unfold F_male_in at h
  obtain ⟨l3, hl3, h⟩ := Option.bind_eq_some_iff.mp h
  obtain ⟨p5, hp5, h⟩ := Option.bind_eq_some_iff.mp h
  refine q (st_asgG (vs := List.range 60) (ev_is (ev_fzT (ew_lcT (φ := D.str) (ψ := (fun z1 : Option Int => optD D.int z1)) (it_anyL (ev_var rfl)) hl3 (fun _ => trivial) rfl ?k4)) (by rw [un3_eq hp5]; rfl)) (gd_lstU (gs_cons (gd_name (by decide)) (gs_cons (gd_name (by decide)) (gs_cons (gd_name (by decide)) gs_nil))) rfl) ?nx22)
  case k4 =>
    intro x1 hx
    refine turn1 (e' := _) (gd_name (by decide)) ?_ ?_
    · intro b hb
      cases hb
      refine et_yes
    · intro y hc hb
      obtain ⟨v2, hv2, hb⟩ := Option.bind_eq_some_iff.mp hb
      cases hb
      refine (ev_callF (ea_cons (ev_var rfl) ea_nil) ⟨_, _, hv2, rfl, rfl⟩)
  case nx22 =>
    show Dm.St K _ _ [.val (D.lst (a0.map D.str)), .val (optD D.int p5.1), .val (optD D.int p5.2.1), .val (optD D.int p5.2.2), .no] _
    obtain ⟨u9, hu9, h⟩ := Option.bind_eq_some_iff.mp h
    obtain ⟨v10, hv10, h⟩ := Option.bind_eq_some_iff.mp h
    obtain ⟨v17, hv17, h⟩ := Option.bind_eq_some_iff.mp h
    refine q_if (et_orO (et_not (et_B (ev_callF (ea_cons (ev_someO (φ := D.int) (ev_var rfl) hu9) ea_nil) ⟨_, _, hv10, rfl, rfl⟩))) hv17 ?k18) (fun hc => ?kt6) (fun hc => ?kf7)
    case k18 =>
      intro hc hb
      obtain ⟨u11, hu11, hb⟩ := Option.bind_eq_some_iff.mp hb
      obtain ⟨v12, hv12, hb⟩ := Option.bind_eq_some_iff.mp hb
      obtain ⟨v15, hv15, hb⟩ := Option.bind_eq_some_iff.mp hb
      cases hb
      refine (et_orO (et_not (et_B (ev_callF (ea_cons (ev_someO (φ := D.int) (ev_var rfl) hu11) (ea_cons ev_int (ea_cons ev_int ea_nil))) ⟨_, _, _, _, hv12, rfl, rfl⟩))) hv15 ?k16)
      case k16 =>
        intro hc hb
        obtain ⟨u13, hu13, hb⟩ := Option.bind_eq_some_iff.mp hb
        obtain ⟨v14, hv14, hb⟩ := Option.bind_eq_some_iff.mp hb
        cases hb
        refine (et_not (et_B (ev_callF (ea_cons (ev_someO (φ := D.int) (ev_var rfl) hu13) (ea_cons ev_int (ea_cons ev_int ea_nil))) ⟨_, _, _, _, hv14, rfl, rfl⟩)))
    case kt6 =>
      rw [if_pos hc] at h
      cases h
      refine st_ret ev_non rfl
    case kf7 =>
      rw [if_neg (by rw [hc]; exact Bool.false_ne_true)] at h
      refine st_next ?_
      show Dm.St K _ _ [.val (D.lst (a0.map D.str)), .val (optD D.int p5.1), .val (optD D.int p5.2.1), .val (optD D.int p5.2.2), .no] _
      obtain ⟨u19, hu19, h⟩ := Option.bind_eq_some_iff.mp h
      obtain ⟨u20, hu20, h⟩ := Option.bind_eq_some_iff.mp h
      obtain ⟨u21, hu21, h⟩ := Option.bind_eq_some_iff.mp h
      cases h
      refine st_ret (ev_tup (ea_cons (ev_someO (φ := D.int) (ev_var rfl) hu19) (ea_cons (ev_someO (φ := D.int) (ev_var rfl) hu20) (ea_cons (ev_someO (φ := D.int) (ev_var rfl) hu21) ea_nil))) (Nat.le_of_ble_eq_true rfl)) rfl
def F_baskets (a0 : O_Grove) (a1 : Int) : Option Int :=
  (F_check_grove a0).bind fun v1 =>
  (F_check_year a1).bind fun v2 =>
  (F_baskets_in a0 a1).bind fun v3 =>
  some v3
def M_baskets : List Nat := []
def R_baskets (C_Grove : Addr) (ds : List D) (x : Res) : Prop := ∃ (a0 : O_Grove) (a1 : Int) (r : Int), F_baskets a0 a1 = some r ∧ ds = [dO_Grove C_Grove a0, D.int a1] ∧ x = .v (D.int r)
theorem len_baskets {C_Grove : Addr} : ∀ (vs : List V) (H : Hp) (Q : VK) (E : XK), spF K (R_baskets C_Grove) vs H Q E → vs.length = 2 := spF_len (by rintro _ _ ⟨_, _, _, _, rfl, _⟩; rfl)
theorem p_baskets {C_Grove : Addr} : ∀ ds x, R_baskets C_Grove ds x → Dm.St K M_baskets (t_baskets K (spF K (R_check_grove C_Grove)) (spF K R_check_year) (spF K (R_baskets_in C_Grove))) (ds.map Slot.val ++ List.replicate (N_baskets.length - ds.length) .no) (RetF x) := by
  rintro _ _ ⟨a0, a1, r, h, rfl, rfl⟩
  show Dm.St K _ _ [.val (dO_Grove C_Grove a0), .val (D.int a1)] _
  unfold F_baskets at h
  obtain ⟨v1, hv1, h⟩ := Option.bind_eq_some_iff.mp h
  refine q (st_drop (ev_callF (ea_cons (ev_var rfl) ea_nil) ⟨_, _, hv1, rfl, rfl⟩) ?_)
  show Dm.St K _ _ [.val (dO_Grove C_Grove a0), .val (D.int a1)] _
  obtain ⟨v2, hv2, h⟩ := Option.bind_eq_some_iff.mp h
  refine q (st_drop (ev_callF (ea_cons (ev_var rfl) ea_nil) ⟨_, _, hv2, rfl, rfl⟩) ?_)
  show Dm.St K _ _ [.val (dO_Grove C_Grove a0), .val (D.int a1)] _
  obtain ⟨v3, hv3, h⟩ := Option.bind_eq_some_iff.mp h
  cases h
  refine st_ret (ev_callF (ea_cons (ev_var rfl) (ea_cons (ev_var rfl) ea_nil)) ⟨_, _, _, hv3, rfl, rfl⟩) rfl
def F_check_plants (a0 : (Int × Int)) (a1 : List Int) : Option Unit :=
  (F_check_life a0).bind fun v1 =>
  (F_are_plants_of a0 a1).bind fun v5 =>
  if (!v5) = true then none else some ()
def M_check_plants : List Nat := []
def R_check_plants (ds : List D) (x : Res) : Prop := ∃ (a0 : (Int × Int)) (a1 : List Int) (r : Unit), F_check_plants a0 a1 = some r ∧ ds = [D.tup [D.int a0.1, D.int a0.2], D.tup (a1.map D.int)] ∧ x = .v (D.non)
theorem len_check_plants : ∀ (vs : List V) (H : Hp) (Q : VK) (E : XK), spF K R_check_plants vs H Q E → vs.length = 2 := spF_len (by rintro _ _ ⟨_, _, _, _, rfl, _⟩; rfl)
theorem p_check_plants : ∀ ds x, R_check_plants ds x → Dm.St K M_check_plants (t_check_plants K (spF K R_check_life) (spF K R_are_plants_of)) (ds.map Slot.val ++ List.replicate (N_check_plants.length - ds.length) .no) (RetF x) := by
  rintro _ _ ⟨a0, a1, r, h, rfl, rfl⟩
  show Dm.St K _ _ [.val (D.tup [D.int a0.1, D.int a0.2]), .val (D.tup (a1.map D.int))] _
  unfold F_check_plants at h
  obtain ⟨v1, hv1, h⟩ := Option.bind_eq_some_iff.mp h
  refine q (st_drop (ev_callF (ea_cons (ev_var rfl) ea_nil) ⟨_, _, hv1, rfl, rfl⟩) ?_)
  show Dm.St K _ _ [.val (D.tup [D.int a0.1, D.int a0.2]), .val (D.tup (a1.map D.int))] _
  obtain ⟨v5, hv5, h⟩ := Option.bind_eq_some_iff.mp h
  refine st_if (et_not (et_B (ev_callF (ea_cons (ev_var rfl) (ea_cons (ev_var rfl) ea_nil)) ⟨_, _, _, hv5, rfl, rfl⟩))) (fun hc => ?kt2) (fun hc => ?kf3)
  case kt2 =>
    rw [if_pos hc] at h
    cases h
  case kf3 =>
    rw [if_neg (by rw [hc]; exact Bool.false_ne_true)] at h
    refine st_next ?_
    cases h
    exact rfl
def F_best_plants (a0 : (Int × Int)) (a1 : Int) : Option ((Int × (List Int))) :=
  (F_check_life a0).bind fun v1 =>
  (F_check_number a1).bind fun v2 =>
  (F_most_always a0 a1).bind fun v3 =>
  (F_even_plants a0 a1).bind fun v4 =>
  some ((v3, v4))
def M_best_plants : List Nat := []
def R_best_plants (ds : List D) (x : Res) : Prop := ∃ (a0 : (Int × Int)) (a1 : Int) (r : (Int × (List Int))), F_best_plants a0 a1 = some r ∧ ds = [D.tup [D.int a0.1, D.int a0.2], D.int a1] ∧ x = .v (D.tup [D.int r.1, D.tup (r.2.map D.int)])
theorem len_best_plants : ∀ (vs : List V) (H : Hp) (Q : VK) (E : XK), spF K R_best_plants vs H Q E → vs.length = 2 := spF_len (by rintro _ _ ⟨_, _, _, _, rfl, _⟩; rfl)
theorem p_best_plants : ∀ ds x, R_best_plants ds x → Dm.St K M_best_plants (t_best_plants K (spF K R_check_life) (spF K R_check_number) (spF K R_even_plants) (spF K R_most_always)) (ds.map Slot.val ++ List.replicate (N_best_plants.length - ds.length) .no) (RetF x) := by
  rintro _ _ ⟨a0, a1, r, h, rfl, rfl⟩
  show Dm.St K _ _ [.val (D.tup [D.int a0.1, D.int a0.2]), .val (D.int a1)] _
  unfold F_best_plants at h
  obtain ⟨v1, hv1, h⟩ := Option.bind_eq_some_iff.mp h
  refine q (st_drop (ev_callF (ea_cons (ev_var rfl) ea_nil) ⟨_, _, hv1, rfl, rfl⟩) ?_)
  show Dm.St K _ _ [.val (D.tup [D.int a0.1, D.int a0.2]), .val (D.int a1)] _
  obtain ⟨v2, hv2, h⟩ := Option.bind_eq_some_iff.mp h
  refine q (st_drop (ev_callF (ea_cons (ev_var rfl) ea_nil) ⟨_, _, hv2, rfl, rfl⟩) ?_)
  show Dm.St K _ _ [.val (D.tup [D.int a0.1, D.int a0.2]), .val (D.int a1)] _
  obtain ⟨v3, hv3, h⟩ := Option.bind_eq_some_iff.mp h
  obtain ⟨v4, hv4, h⟩ := Option.bind_eq_some_iff.mp h
  cases h
  refine st_ret (ev_tup (ea_cons (ev_callF (ea_cons (ev_var rfl) (ea_cons (ev_var rfl) ea_nil)) ⟨_, _, _, hv3, rfl, rfl⟩) (ea_cons (ev_callF (ea_cons (ev_var rfl) (ea_cons (ev_var rfl) ea_nil)) ⟨_, _, _, hv4, rfl, rfl⟩) ea_nil)) (Nat.le_of_ble_eq_true rfl)) rfl
def F_check_enough (a0 : (Int × Int)) (a1 : Int) : Option Int :=
  (F_check_life a0).bind fun v1 =>
  (F_check_number a1).bind fun v2 =>
  (pyMul a1 a0.2).bind fun v3 =>
  (pyDiv (((0 : Int) - v3)) ((a0.2 - a0.1))).bind fun v4 =>
  if (decide ((60 : Int) < ((0 : Int) - v4))) = true then none else
  some (((0 : Int) - v4))
def M_check_enough : List Nat := []
def R_check_enough (ds : List D) (x : Res) : Prop := ∃ (a0 : (Int × Int)) (a1 : Int) (r : Int), F_check_enough a0 a1 = some r ∧ ds = [D.tup [D.int a0.1, D.int a0.2], D.int a1] ∧ x = .v (D.int r)
theorem len_check_enough : ∀ (vs : List V) (H : Hp) (Q : VK) (E : XK), spF K R_check_enough vs H Q E → vs.length = 2 := spF_len (by rintro _ _ ⟨_, _, _, _, rfl, _⟩; rfl)
theorem p_check_enough : ∀ ds x, R_check_enough ds x → Dm.St K M_check_enough (t_check_enough K (spF K R_check_life) (spF K R_check_number)) (ds.map Slot.val ++ List.replicate (N_check_enough.length - ds.length) .no) (RetF x) := by
  rintro _ _ ⟨a0, a1, r, h, rfl, rfl⟩
  show Dm.St K _ _ [.val (D.tup [D.int a0.1, D.int a0.2]), .val (D.int a1), .no] _
  unfold F_check_enough at h
  obtain ⟨v1, hv1, h⟩ := Option.bind_eq_some_iff.mp h
  refine q (st_drop (ev_callF (ea_cons (ev_var rfl) ea_nil) ⟨_, _, hv1, rfl, rfl⟩) ?_)
  show Dm.St K _ _ [.val (D.tup [D.int a0.1, D.int a0.2]), .val (D.int a1), .no] _
  obtain ⟨v2, hv2, h⟩ := Option.bind_eq_some_iff.mp h
  refine q (st_drop (ev_callF (ea_cons (ev_var rfl) ea_nil) ⟨_, _, hv2, rfl, rfl⟩) ?_)
  show Dm.St K _ _ [.val (D.tup [D.int a0.1, D.int a0.2]), .val (D.int a1), .no] _
  obtain ⟨v3, hv3, h⟩ := Option.bind_eq_some_iff.mp h
  obtain ⟨v4, hv4, h⟩ := Option.bind_eq_some_iff.mp h
  refine q (st_asg (ev_op ev_int (ev_op (ev_op ev_int (ev_op (ev_var rfl) (ev_op (ev_var rfl) ev_int (d_ixT (by rfl))) (ty_mul hv3)) d_sub) (ev_op (ev_op (ev_var rfl) ev_int (d_ixT (by rfl))) (ev_op (ev_var rfl) ev_int (d_ixT (by rfl))) d_sub) (ty_div hv4)) d_sub) ?_)
  show Dm.St K _ _ [.val (D.tup [D.int a0.1, D.int a0.2]), .val (D.int a1), .val (D.int (((0 : Int) - v4)))] _
  refine q_if (et_test (ev_op (ev_var rfl) ev_int d_gt)) (fun hc => ?kt5) (fun hc => ?kf6)
  case kt5 =>
    rw [if_pos hc] at h
    cases h
  case kf6 =>
    rw [if_neg (by rw [hc]; exact Bool.false_ne_true)] at h
    refine st_next ?_
    show Dm.St K _ _ [.val (D.tup [D.int a0.1, D.int a0.2]), .val (D.int a1), .val (D.int (((0 : Int) - v4)))] _
    cases h
    refine st_ret (ev_var rfl) rfl
def F_years_of_lot (a0 : O_Grove) (a1 : Bool × List Str) : Option (List Int) :=
  (lcM (fun x1 => some true) (fun x1 => (F_bits_of a0 x1).bind fun v2 =>
  some v2) a1.2).bind fun l3 =>
  (pyRng ((60 : Int))).bind fun l5 =>
  (lcM (fun x6 => (lcM (fun x7 => some true) (fun x7 => (pyIx x7 x6).bind fun v8 =>
  some v8) l3).bind fun l9 =>
  some ((l9.all id))) (fun x6 => some x6) l5).bind fun l11 =>
  some l11
def M_years_of_lot : List Nat := []
def R_years_of_lot (C_Grove : Addr) (ds : List D) (x : Res) : Prop := ∃ (a0 : O_Grove) (a1 : Bool × List Str) (r : List Int), F_years_of_lot a0 a1 = some r ∧ ds = [dO_Grove C_Grove a0, sqD D.str a1] ∧ x = .v (D.lst (r.map D.int))
theorem len_years_of_lot {C_Grove : Addr} : ∀ (vs : List V) (H : Hp) (Q : VK) (E : XK), spF K (R_years_of_lot C_Grove) vs H Q E → vs.length = 2 := spF_len (by rintro _ _ ⟨_, _, _, _, rfl, _⟩; rfl)
theorem p_years_of_lot {C_Grove : Addr} : ∀ ds x, R_years_of_lot C_Grove ds x → Dm.St K M_years_of_lot (t_years_of_lot K (spF K (R_bits_of C_Grove))) (ds.map Slot.val ++ List.replicate (N_years_of_lot.length - ds.length) .no) (RetF x) := by
  rintro _ _ ⟨a0, a1, r, h, rfl, rfl⟩
  show Dm.St K _ _ [.val (dO_Grove C_Grove a0), .val (sqD D.str a1), .no, .no, .no, .no] _
  unfold F_years_of_lot at h
  obtain ⟨l3, hl3, h⟩ := Option.bind_eq_some_iff.mp h
  refine q (st_asg (ev_fzT (ew_lcT (φ := D.str) (ψ := (fun z1 : List Bool => D.lst (z1.map D.bl))) (it_anyQ (φ := D.str) (ev_var rfl)) hl3 (fun _ => trivial) rfl ?k4)) ?nx13)
  case k4 =>
    intro x1 hx
    refine turn1 (e' := _) (gd_name (by decide)) ?_ ?_
    · intro b hb
      cases hb
      refine et_yes
    · intro y hc hb
      obtain ⟨v2, hv2, hb⟩ := Option.bind_eq_some_iff.mp hb
      cases hb
      refine (ev_callF (ea_cons (ev_var rfl) (ea_cons (ev_var rfl) ea_nil)) ⟨_, _, _, hv2, rfl, rfl⟩)
  case nx13 =>
    show Dm.St K _ _ [.val (dO_Grove C_Grove a0), .val (sqD D.str a1), .val (D.lst (l3.map (fun z1 : List Bool => D.lst (z1.map D.bl)))), .no, .no, .no] _
    obtain ⟨l5, hl5, h⟩ := Option.bind_eq_some_iff.mp h
    obtain ⟨l11, hl11, h⟩ := Option.bind_eq_some_iff.mp h
    cases h
    refine st_ret (ev_fzT (ew_lcT (φ := D.int) (ψ := D.int) (it_rng (ea_cons ev_int ea_nil) hl5) hl11 (fun _ => trivial) rfl ?k12)) rfl
    case k12 =>
      intro x6 hx
      refine turn1 (e' := _) (gd_name (by decide)) ?_ ?_
      · intro b hb
        obtain ⟨l9, hl9, hb⟩ := Option.bind_eq_some_iff.mp hb
        cases hb
        refine (et_B (ev_cb (ea_cons (ev_fzT (ew_lcT (φ := (fun z1 : List Bool => D.lst (z1.map D.bl))) (ψ := D.bl) (it_anyL (ev_var rfl)) hl9 (fun _ => trivial) rfl ?k10)) ea_nil) d_all))
        case k10 =>
          intro x7 hx
          refine turn1 (e' := _) (gd_name (by decide)) ?_ ?_
          · intro b hb
            cases hb
            refine et_yes
          · intro y hc hb
            obtain ⟨v8, hv8, hb⟩ := Option.bind_eq_some_iff.mp hb
            cases hb
            refine (ev_op (ev_var rfl) (ev_var rfl) (ty_ixL (φ := D.bl) hv8))
      · intro y hc hb
        cases hb
        refine (ev_var rfl)
def F_sums_of (a0 : O_Grove) : Option (List Int) :=
  (pyRng ((60 : Int))).bind fun l1 =>
  (lcM (fun x2 => some true) (fun x2 => (F_baskets_in a0 x2).bind fun v3 =>
  some v3) l1).bind fun l4 =>
  some l4
def M_sums_of : List Nat := []
def R_sums_of (C_Grove : Addr) (ds : List D) (x : Res) : Prop := ∃ (a0 : O_Grove) (r : List Int), F_sums_of a0 = some r ∧ ds = [dO_Grove C_Grove a0] ∧ x = .v (D.lst (r.map D.int))
theorem len_sums_of {C_Grove : Addr} : ∀ (vs : List V) (H : Hp) (Q : VK) (E : XK), spF K (R_sums_of C_Grove) vs H Q E → vs.length = 1 := spF_len (by rintro _ _ ⟨_, _, _, rfl, _⟩; rfl)
theorem p_sums_of {C_Grove : Addr} : ∀ ds x, R_sums_of C_Grove ds x → Dm.St K M_sums_of (t_sums_of K (spF K (R_baskets_in C_Grove))) (ds.map Slot.val ++ List.replicate (N_sums_of.length - ds.length) .no) (RetF x) := by
  rintro _ _ ⟨a0, r, h, rfl, rfl⟩
  show Dm.St K _ _ [.val (dO_Grove C_Grove a0), .no] _
  unfold F_sums_of at h
  obtain ⟨l1, hl1, h⟩ := Option.bind_eq_some_iff.mp h
  obtain ⟨l4, hl4, h⟩ := Option.bind_eq_some_iff.mp h
  cases h
  refine st_ret (ev_fzT (ew_lcT (φ := D.int) (ψ := D.int) (it_rng (ea_cons ev_int ea_nil) hl1) hl4 (fun _ => trivial) rfl ?k5)) rfl
  case k5 =>
    intro x2 hx
    refine turn1 (e' := _) (gd_name (by decide)) ?_ ?_
    · intro b hb
      cases hb
      refine et_yes
    · intro y hc hb
      obtain ⟨v3, hv3, hb⟩ := Option.bind_eq_some_iff.mp hb
      cases hb
      refine (ev_callF (ea_cons (ev_var rfl) (ea_cons (ev_var rfl) ea_nil)) ⟨_, _, _, hv3, rfl, rfl⟩)
def F_check_shifts_few (a0 : O_Grove) : Option Unit :=
  (F_check_grove a0).bind fun v1 =>
  (F_shift_count a0).bind fun v5 =>
  if (decide ((1000 : Int) < v5)) = true then none else some ()
def M_check_shifts_few : List Nat := []
def R_check_shifts_few (C_Grove : Addr) (ds : List D) (x : Res) : Prop := ∃ (a0 : O_Grove) (r : Unit), F_check_shifts_few a0 = some r ∧ ds = [dO_Grove C_Grove a0] ∧ x = .v (D.non)
theorem len_check_shifts_few {C_Grove : Addr} : ∀ (vs : List V) (H : Hp) (Q : VK) (E : XK), spF K (R_check_shifts_few C_Grove) vs H Q E → vs.length = 1 := spF_len (by rintro _ _ ⟨_, _, _, rfl, _⟩; rfl)
theorem p_check_shifts_few {C_Grove : Addr} : ∀ ds x, R_check_shifts_few C_Grove ds x → Dm.St K M_check_shifts_few (t_check_shifts_few K (spF K (R_check_grove C_Grove)) (spF K (R_shift_count C_Grove))) (ds.map Slot.val ++ List.replicate (N_check_shifts_few.length - ds.length) .no) (RetF x) := by
  rintro _ _ ⟨a0, r, h, rfl, rfl⟩
  show Dm.St K _ _ [.val (dO_Grove C_Grove a0)] _
  unfold F_check_shifts_few at h
  obtain ⟨v1, hv1, h⟩ := Option.bind_eq_some_iff.mp h
  refine q (st_drop (ev_callF (ea_cons (ev_var rfl) ea_nil) ⟨_, _, hv1, rfl, rfl⟩) ?_)
  show Dm.St K _ _ [.val (dO_Grove C_Grove a0)] _
  obtain ⟨v5, hv5, h⟩ := Option.bind_eq_some_iff.mp h
  refine st_if (et_test (ev_op (ev_callF (ea_cons (ev_var rfl) ea_nil) ⟨_, _, hv5, rfl, rfl⟩) ev_int d_gt)) (fun hc => ?kt2) (fun hc => ?kf3)
  case kt2 =>
    rw [if_pos hc] at h
    cases h
  case kf3 =>
    rw [if_neg (by rw [hc]; exact Bool.false_ne_true)] at h
    refine st_next ?_
    cases h
    exact rfl
def F_told_evenest (a0 : O_Grove) : Option ((Int × (List Int))) :=
  (F_rows_shifted a0).bind fun v1 =>
  (F_all_shifts a0).bind fun v6 =>
  (forL (σ := (Option ((Int × (List Int))))) (fun x8 s7 => (F_sums_by v1 x8).bind fun v10 =>
  (pyMin v10).bind fun v11 =>
  (if (s7.isNone) = true then some true else (s7).bind fun u12 =>
  some ((decide (u12.1 < v11)))).bind fun v13 =>
  (if v13 = true then some ((some ((v11, x8)))) else some s7).bind fun v15 =>
  some v15) v6 ((none : Option ((Int × (List Int)))))).bind fun s9 =>
  (s9).bind fun u20 =>
  some u20
def M_told_evenest : List Nat := []
def R_told_evenest (C_Grove : Addr) (ds : List D) (x : Res) : Prop := ∃ (a0 : O_Grove) (r : (Int × (List Int))), F_told_evenest a0 = some r ∧ ds = [dO_Grove C_Grove a0] ∧ x = .v (D.tup [D.int r.1, D.tup (r.2.map D.int)])
theorem len_told_evenest {C_Grove : Addr} : ∀ (vs : List V) (H : Hp) (Q : VK) (E : XK), spF K (R_told_evenest C_Grove) vs H Q E → vs.length = 1 := spF_len (by rintro _ _ ⟨_, _, _, rfl, _⟩; rfl)
theorem p_told_evenest {C_Grove : Addr} : ∀ ds x, R_told_evenest C_Grove ds x → Dm.St K M_told_evenest (t_told_evenest K (spF K (R_rows_shifted C_Grove)) (spF K (R_all_shifts C_Grove)) (spF K R_sums_by)) (ds.map Slot.val ++ List.replicate (N_told_evenest.length - ds.length) .no) (RetF x) := by
  rintro _ _ ⟨a0, r, h, rfl, rfl⟩
  show Dm.St K _ _ [.val (dO_Grove C_Grove a0), .no, .no, .no, .no] _
  unfold F_told_evenest at h
  obtain ⟨v1, hv1, h⟩ := Option.bind_eq_some_iff.mp h
  refine q (st_par (ea_cons (ev_callF (ea_cons (ev_var rfl) ea_nil) ⟨_, _, hv1, rfl, rfl⟩) (ea_cons ev_non ea_nil)) ?_)
  show Dm.St K _ _ [.val (dO_Grove C_Grove a0), .val (D.lst (v1.map (fun z2 : List (List Int) => D.lst (z2.map (fun z1 : List Int => D.lst (z1.map D.int)))))), .val (optD (fun z2 : (Int × (List Int)) => D.tup [D.int z2.1, D.tup (z2.2.map D.int)]) ((none : Option ((Int × (List Int)))))), .no, .no] _
  obtain ⟨v6, hv6, h⟩ := Option.bind_eq_some_iff.mp h
  obtain ⟨s9, hs9, h⟩ := Option.bind_eq_some_iff.mp h
  refine q (st_forL (vs := List.range 60) (Mb := M_told_evenest) (φ := (fun z1 : List Int => D.tup (z1.map D.int))) (J := fun s7 : (Option ((Int × (List Int)))) => [.val (dO_Grove C_Grove a0), .val (D.lst (v1.map (fun z2 : List (List Int) => D.lst (z2.map (fun z1 : List Int => D.lst (z1.map D.int)))))), .val (optD (fun z2 : (Int × (List Int)) => D.tup [D.int z2.1, D.tup (z2.2.map D.int)]) s7), .no, .no]) (it_anyL (ev_callF (ea_cons (ev_var rfl) ea_nil) ⟨_, _, hv6, rfl, rfl⟩)) hs9 (fun _ z => z) (.same (.same (.same (.same (.same .nil))))) (fun _ _ _ _ => trivial) ?kb2 ?kn3)
  case kb2 =>
    intro x8 hx s7 s' hb
    refine ⟨_, (gd_name (by decide)), ?_⟩
    obtain ⟨v10, hv10, hb⟩ := Option.bind_eq_some_iff.mp hb
    obtain ⟨v11, hv11, hb⟩ := Option.bind_eq_some_iff.mp hb
    refine q (st_asg (ev_cb (ea_cons (ev_callF (ea_cons (ev_var rfl) (ea_cons (ev_var rfl) ea_nil)) ⟨_, _, _, hv10, rfl, rfl⟩) ea_nil) (ty_min hv11)) ?_)
    show Dm.St K _ _ [.val (dO_Grove C_Grove a0), .val (D.lst (v1.map (fun z2 : List (List Int) => D.lst (z2.map (fun z1 : List Int => D.lst (z1.map D.int)))))), .val (optD (fun z2 : (Int × (List Int)) => D.tup [D.int z2.1, D.tup (z2.2.map D.int)]) s7), .val (D.tup (x8.map D.int)), .val (D.int v11)] _
    obtain ⟨v13, hv13, hb⟩ := Option.bind_eq_some_iff.mp hb
    obtain ⟨v15, hv15, hb⟩ := Option.bind_eq_some_iff.mp hb
    refine st_asg (ev_ifE (φ := (fun z3 : Option ((Int × (List Int))) => optD (fun z2 : (Int × (List Int)) => D.tup [D.int z2.1, D.tup (z2.2.map D.int)]) z3)) (et_orO (et_test (ev_op (ev_var rfl) ev_non (ty_isN (φ := (fun z2 : (Int × (List Int)) => D.tup [D.int z2.1, D.tup (z2.2.map D.int)])) fun _ => rfl))) hv13 ?k14) hv15 ?k16 ?k17) ?nx18
    case k14 =>
      intro hc hb
      obtain ⟨u12, hu12, hb⟩ := Option.bind_eq_some_iff.mp hb
      cases hb
      refine (et_test (ev_op (ev_var rfl) (ev_op (ev_someO (φ := (fun z2 : (Int × (List Int)) => D.tup [D.int z2.1, D.tup (z2.2.map D.int)])) (ev_var rfl) hu12) ev_int (d_ixT (by rfl))) d_gt))
    case k16 =>
      intro hc hb
      cases hb
      refine (ev_tup (ea_cons (ev_var rfl) (ea_cons (ev_var rfl) ea_nil)) (Nat.le_of_ble_eq_true rfl))
    case k17 =>
      intro hc hb
      cases hb
      refine (ev_var rfl)
    case nx18 =>
      cases hb
      exact (.same (.same (.same (.drop (.drop .nil)))))
  case kn3 =>
    show Dm.St K _ _ [.val (dO_Grove C_Grove a0), .val (D.lst (v1.map (fun z2 : List (List Int) => D.lst (z2.map (fun z1 : List Int => D.lst (z1.map D.int)))))), .val (optD (fun z2 : (Int × (List Int)) => D.tup [D.int z2.1, D.tup (z2.2.map D.int)]) s9), .no, .no] _
    obtain ⟨u20, hu20, h⟩ := Option.bind_eq_some_iff.mp h
    cases h
    refine st_ret (ev_someO (φ := (fun z2 : (Int × (List Int)) => D.tup [D.int z2.1, D.tup (z2.2.map D.int)])) (ev_var rfl) hu20) rfl
def F_GroveReader_takes (a0 : O_GroveReader) (a1 : Str) : Option ((Bool × O_GroveReader)) :=
  (pySplit a1 ((" " : Str))).bind fun v1 =>
  (pyIx v1 ((0 : Int))).bind fun v5 =>
  if ((decide (v5 = ("grove" : Str))) && (decide ((v1.length : Int) = (3 : Int)))) = true then (lcM (fun x6 => some true) (fun x6 => (F_read_integer x6).bind fun v7 =>
  some v7) ((cutL v1 (some ((1 : Int))) none))).bind fun l8 =>
  (F_GroveReader_takes_head a0 l8).bind fun p10 =>
  some ((p10.1, p10.2)) else
  (if (a0.own_head.isNone) = true then some true else (if (decide ((v1.length : Int) < (2 : Int))) = true then some true else (pyIx v1 ((1 : Int))).bind fun v14 =>
  (F_GroveReader_is_new a0 v14).bind fun v15 =>
  some ((!v15))).bind fun v16 =>
  some v16).bind fun v18 =>
  if v18 = true then some ((false, a0)) else
  (pyIx v1 ((0 : Int))).bind fun v23 =>
  if ((decide (v23 = ("palm" : Str))) && (decide ((v1.length : Int) = (7 : Int)))) = true then (F_palm_in ((cutL v1 (some ((2 : Int))) none))).bind fun v24 =>
  if ((v24.isNone) || ((!a0.own_males.isEmpty) || (decide ((a0.own_palms.length : Int) = (12 : Int))))) = true then some ((false, a0)) else
  (v24).bind fun u28 =>
  (pyIx v1 ((1 : Int))).bind fun v29 =>
  (mSet a0.own_palms v29 u28).bind fun l30 =>
  some ((true, { a0 with own_palms := l30 })) else
  (pyIx v1 ((0 : Int))).bind fun v33 =>
  (if ((decide (v33 = ("male" : Str))) && (decide ((v1.length : Int) = (5 : Int)))) = true then (F_male_in ((cutL v1 (some ((2 : Int))) none))).bind fun v34 =>
  some v34 else some ((none : Option ((Int × Int × Int))))).bind fun v35 =>
  if ((v35.isNone) || (a0.own_palms.isEmpty || (decide ((a0.own_males.length : Int) = (6 : Int))))) = true then some ((false, a0)) else
  (v35).bind fun u41 =>
  (pyIx v1 ((1 : Int))).bind fun v42 =>
  (mSet a0.own_males v42 u41).bind fun l43 =>
  some ((true, { a0 with own_males := l43 }))
def M_GroveReader_takes : List Nat := [0]
def R_GroveReader_takes (C_GroveReader : Addr) (o : OD) (ds : List D) (x : Res) (o' : OD) : Prop := ∃ (a0 : O_GroveReader) (a1 : Str) (r : Bool) (s : O_GroveReader), F_GroveReader_takes a0 a1 = some (r, s) ∧ o = oO_GroveReader C_GroveReader a0 ∧ ds = [D.str a1] ∧ x = .v (D.bl r) ∧ o' = oO_GroveReader C_GroveReader s
theorem len_GroveReader_takes {C_GroveReader : Addr} : ∀ (vs : List V) (H : Hp) (Q : VK) (E : XK), spO K (R_GroveReader_takes C_GroveReader) vs H Q E → vs.length = 2 := spO_len (by rintro _ _ _ _ ⟨_, _, _, _, _, rfl, rfl, _⟩; rfl)
theorem p_GroveReader_takes {C_GroveReader : Addr} (k_GroveReader : CK_GroveReader K C_GroveReader) : ∀ o ds x o', R_GroveReader_takes C_GroveReader o ds x o' → Dm.St K M_GroveReader_takes (t_GroveReader_takes K C_GroveReader (spO K (R_GroveReader_takes_head C_GroveReader)) (spF K R_read_integer) (spO K (R_GroveReader_is_new C_GroveReader)) (spF K R_palm_in) (spF K R_male_in)) (.own o :: (ds.map Slot.val ++ List.replicate (N_GroveReader_takes.length - (ds.length + 1)) .no)) (RetO x o') := by
  rintro _ _ _ _ ⟨a0, a1, r, s, h, rfl, rfl, rfl, rfl⟩
  show Dm.St K _ _ [.own (oO_GroveReader C_GroveReader a0), .val (D.str a1), .no, .no, .no] _
  unfold F_GroveReader_takes at h
  obtain ⟨v1, hv1, h⟩ := Option.bind_eq_some_iff.mp h
  refine q (st_asg (ev_splitT (ev_var rfl) ev_str hv1) ?_)
  show Dm.St K _ _ [.own (oO_GroveReader C_GroveReader a0), .val (D.str a1), .val (D.lst (v1.map D.str)), .no, .no] _
  obtain ⟨v5, hv5, h⟩ := Option.bind_eq_some_iff.mp h
  refine q_if (et_and (et_test (ev_op (ev_op (ev_var rfl) ev_int (ty_ixL (φ := D.str) hv5)) ev_str d_eqS)) fun _ => (et_test (ev_op (ev_cb (ea_cons (ev_var rfl) ea_nil) (ty_lenL (φ := D.str))) ev_int d_eqI))) (fun hc => ?kt2) (fun hc => ?kf3)
  case kt2 =>
    rw [if_pos hc] at h
    obtain ⟨l8, hl8, h⟩ := Option.bind_eq_some_iff.mp h
    obtain ⟨p10, hp10, h⟩ := Option.bind_eq_some_iff.mp h
    cases h
    refine st_ret (ev_methO (M' := []) (pl_var rfl) (by decide +kernel) (ea_cons (ev_fzT (ew_lcT (φ := D.str) (ψ := (fun z1 : Option Int => optD D.int z1)) (it_anyL (ev_slLT (φ := D.str) (ev_var rfl) (eo_some ev_int) eo_none)) hl8 (fun _ => trivial) rfl ?k9)) ea_nil) (by decide) (by decide) (by decide) rfl rfl rfl ⟨_, _, _, _, hp10, rfl, rfl, rfl, rfl⟩) ⟨rfl, rfl⟩
    case k9 =>
      intro x6 hx
      refine turn1 (e' := _) (gd_name (by decide)) ?_ ?_
      · intro b hb
        cases hb
        refine et_yes
      · intro y hc hb
        obtain ⟨v7, hv7, hb⟩ := Option.bind_eq_some_iff.mp hb
        cases hb
        refine (ev_callF (ea_cons (ev_var rfl) ea_nil) ⟨_, _, hv7, rfl, rfl⟩)
  case kf3 =>
    rw [if_neg (by rw [hc]; exact Bool.false_ne_true)] at h
    refine st_next ?_
    show Dm.St K _ _ [.own (oO_GroveReader C_GroveReader a0), .val (D.str a1), .val (D.lst (v1.map D.str)), .no, .no] _
    obtain ⟨v18, hv18, h⟩ := Option.bind_eq_some_iff.mp h
    refine q_if (et_orO (et_test (ev_op (ev_leaf (pl_fld (pl_var rfl) rfl rfl (j := 0) (by decide +kernel) (by decide +kernel) k_GroveReader.cls k_GroveReader.n_own_head) rfl rfl) ev_non (ty_isN (φ := (fun z1 : (Int × Int) => D.tup [D.int z1.1, D.int z1.2])) fun _ => rfl))) hv18 ?k19) (fun hc => ?kt11) (fun hc => ?kf12)
    case k19 =>
      intro hc hb
      obtain ⟨v16, hv16, hb⟩ := Option.bind_eq_some_iff.mp hb
      cases hb
      refine (et_orO (et_test (ev_op (ev_cb (ea_cons (ev_var rfl) ea_nil) (ty_lenL (φ := D.str))) ev_int d_lt)) hv16 ?k17)
      case k17 =>
        intro hc hb
        obtain ⟨v14, hv14, hb⟩ := Option.bind_eq_some_iff.mp hb
        obtain ⟨v15, hv15, hb⟩ := Option.bind_eq_some_iff.mp hb
        cases hb
        refine (et_not (et_B (ev_methO (M' := []) (pl_var rfl) (by decide +kernel) (ea_cons (ev_op (ev_var rfl) ev_int (ty_ixL (φ := D.str) hv14)) ea_nil) (by decide) (by decide) (by decide) rfl rfl rfl ⟨_, _, _, hv15, rfl, rfl, rfl, rfl⟩)))
    case kt11 =>
      rw [if_pos hc] at h
      cases h
      refine st_ret ev_bl ⟨rfl, rfl⟩
    case kf12 =>
      rw [if_neg (by rw [hc]; exact Bool.false_ne_true)] at h
      refine st_next ?_
      show Dm.St K _ _ [.own (oO_GroveReader C_GroveReader a0), .val (D.str a1), .val (D.lst (v1.map D.str)), .no, .no] _
      obtain ⟨v23, hv23, h⟩ := Option.bind_eq_some_iff.mp h
      refine q_if (et_and (et_test (ev_op (ev_op (ev_var rfl) ev_int (ty_ixL (φ := D.str) hv23)) ev_str d_eqS)) fun _ => (et_test (ev_op (ev_cb (ea_cons (ev_var rfl) ea_nil) (ty_lenL (φ := D.str))) ev_int d_eqI))) (fun hc => ?kt20) (fun hc => ?kf21)
      case kt20 =>
        rw [if_pos hc] at h
        obtain ⟨v24, hv24, h⟩ := Option.bind_eq_some_iff.mp h
        refine q (st_asg (ev_callF (ea_cons (ev_slLT (φ := D.str) (ev_var rfl) (eo_some ev_int) eo_none) ea_nil) ⟨_, _, hv24, rfl, rfl⟩) ?_)
        show Dm.St K _ _ [.own (oO_GroveReader C_GroveReader a0), .val (D.str a1), .val (D.lst (v1.map D.str)), .val (optD (fun z1 : (Int × Int × Int × Str × Int) => D.tup [D.int z1.1, D.int z1.2.1, D.int z1.2.2.1, D.str z1.2.2.2.1, D.int z1.2.2.2.2]) v24), .no] _
        refine q_if (et_or (et_test (ev_op (ev_var rfl) ev_non (ty_isN (φ := (fun z1 : (Int × Int × Int × Str × Int) => D.tup [D.int z1.1, D.int z1.2.1, D.int z1.2.2.1, D.str z1.2.2.2.1, D.int z1.2.2.2.2])) fun _ => rfl))) fun _ => (et_or (et_test (pl_neM (κ := (Sum.inr : Str → Key)) (φ := (fun z1 : (Int × Int × Int) => D.tup [D.int z1.1, D.int z1.2.1, D.int z1.2.2])) (pl_fld (pl_var rfl) rfl rfl (j := 2) (by decide +kernel) (by decide +kernel) k_GroveReader.cls k_GroveReader.n_own_males) rfl rfl)) fun _ => (et_test (ev_op (pl_lenM (κ := (Sum.inr : Str → Key)) (φ := (fun z1 : (Int × Int × Int × Str × Int) => D.tup [D.int z1.1, D.int z1.2.1, D.int z1.2.2.1, D.str z1.2.2.2.1, D.int z1.2.2.2.2])) (pl_fld (pl_var rfl) rfl rfl (j := 1) (by decide +kernel) (by decide +kernel) k_GroveReader.cls k_GroveReader.n_own_palms) rfl rfl) ev_int d_eqI)))) (fun hc => ?kt25) (fun hc => ?kf26)
        case kt25 =>
          rw [if_pos hc] at h
          cases h
          refine st_ret ev_bl ⟨rfl, rfl⟩
        case kf26 =>
          rw [if_neg (by rw [hc]; exact Bool.false_ne_true)] at h
          refine st_next ?_
          show Dm.St K _ _ [.own (oO_GroveReader C_GroveReader a0), .val (D.str a1), .val (D.lst (v1.map D.str)), .val (optD (fun z1 : (Int × Int × Int × Str × Int) => D.tup [D.int z1.1, D.int z1.2.1, D.int z1.2.2.1, D.str z1.2.2.2.1, D.int z1.2.2.2.2]) v24), .no] _
          obtain ⟨u28, hu28, h⟩ := Option.bind_eq_some_iff.mp h
          obtain ⟨v29, hv29, h⟩ := Option.bind_eq_some_iff.mp h
          obtain ⟨l30, hl30, h⟩ := Option.bind_eq_some_iff.mp h
          refine q (st_setMT (κ := (Sum.inr : Str → Key)) (φ := (fun z1 : (Int × Int × Int × Str × Int) => D.tup [D.int z1.1, D.int z1.2.1, D.int z1.2.2.1, D.str z1.2.2.2.1, D.int z1.2.2.2.2])) (v := u28) (M' := []) inS (ev_someO (φ := (fun z1 : (Int × Int × Int × Str × Int) => D.tup [D.int z1.1, D.int z1.2.1, D.int z1.2.2.1, D.str z1.2.2.2.1, D.int z1.2.2.2.2])) (ev_var rfl) hu28) (by decide) (by decide) (pl_fld (pl_var rfl) rfl rfl (j := 1) (by decide +kernel) (by decide +kernel) k_GroveReader.cls k_GroveReader.n_own_palms) rfl rfl (ev_op (ev_var rfl) ev_int (ty_ixL (φ := D.str) hv29)) hl30 ?_)
          show Dm.St K _ _ [.own (oO_GroveReader C_GroveReader ({ a0 with own_palms := l30 })), .val (D.str a1), .val (D.lst (v1.map D.str)), .val (optD (fun z1 : (Int × Int × Int × Str × Int) => D.tup [D.int z1.1, D.int z1.2.1, D.int z1.2.2.1, D.str z1.2.2.2.1, D.int z1.2.2.2.2]) v24), .no] _
          cases h
          refine st_ret ev_bl ⟨rfl, rfl⟩
      case kf21 =>
        rw [if_neg (by rw [hc]; exact Bool.false_ne_true)] at h
        refine st_next ?_
        show Dm.St K _ _ [.own (oO_GroveReader C_GroveReader a0), .val (D.str a1), .val (D.lst (v1.map D.str)), .no, .no] _
        obtain ⟨v33, hv33, h⟩ := Option.bind_eq_some_iff.mp h
        obtain ⟨v35, hv35, h⟩ := Option.bind_eq_some_iff.mp h
        refine q (st_asg (ev_ifE (φ := (fun z2 : Option ((Int × Int × Int)) => optD (fun z1 : (Int × Int × Int) => D.tup [D.int z1.1, D.int z1.2.1, D.int z1.2.2]) z2)) (et_and (et_test (ev_op (ev_op (ev_var rfl) ev_int (ty_ixL (φ := D.str) hv33)) ev_str d_eqS)) fun _ => (et_test (ev_op (ev_cb (ea_cons (ev_var rfl) ea_nil) (ty_lenL (φ := D.str))) ev_int d_eqI))) hv35 ?k36 ?k37) ?nx45)
        case k36 =>
          intro hc hb
          obtain ⟨v34, hv34, hb⟩ := Option.bind_eq_some_iff.mp hb
          cases hb
          refine (ev_callF (ea_cons (ev_slLT (φ := D.str) (ev_var rfl) (eo_some ev_int) eo_none) ea_nil) ⟨_, _, hv34, rfl, rfl⟩)
        case k37 =>
          intro hc hb
          cases hb
          refine ev_non
        case nx45 =>
          show Dm.St K _ _ [.own (oO_GroveReader C_GroveReader a0), .val (D.str a1), .val (D.lst (v1.map D.str)), .val (optD (fun z1 : (Int × Int × Int) => D.tup [D.int z1.1, D.int z1.2.1, D.int z1.2.2]) v35), .no] _
          refine q_if (et_or (et_test (ev_op (ev_var rfl) ev_non (ty_isN (φ := (fun z1 : (Int × Int × Int) => D.tup [D.int z1.1, D.int z1.2.1, D.int z1.2.2])) fun _ => rfl))) fun _ => (et_or (et_test (pl_eqM (κ := (Sum.inr : Str → Key)) (φ := (fun z1 : (Int × Int × Int × Str × Int) => D.tup [D.int z1.1, D.int z1.2.1, D.int z1.2.2.1, D.str z1.2.2.2.1, D.int z1.2.2.2.2])) (pl_fld (pl_var rfl) rfl rfl (j := 1) (by decide +kernel) (by decide +kernel) k_GroveReader.cls k_GroveReader.n_own_palms) rfl rfl)) fun _ => (et_test (ev_op (pl_lenM (κ := (Sum.inr : Str → Key)) (φ := (fun z1 : (Int × Int × Int) => D.tup [D.int z1.1, D.int z1.2.1, D.int z1.2.2])) (pl_fld (pl_var rfl) rfl rfl (j := 2) (by decide +kernel) (by decide +kernel) k_GroveReader.cls k_GroveReader.n_own_males) rfl rfl) ev_int d_eqI)))) (fun hc => ?kt38) (fun hc => ?kf39)
          case kt38 =>
            rw [if_pos hc] at h
            cases h
            refine st_ret ev_bl ⟨rfl, rfl⟩
          case kf39 =>
            rw [if_neg (by rw [hc]; exact Bool.false_ne_true)] at h
            refine st_next ?_
            show Dm.St K _ _ [.own (oO_GroveReader C_GroveReader a0), .val (D.str a1), .val (D.lst (v1.map D.str)), .val (optD (fun z1 : (Int × Int × Int) => D.tup [D.int z1.1, D.int z1.2.1, D.int z1.2.2]) v35), .no] _
            obtain ⟨u41, hu41, h⟩ := Option.bind_eq_some_iff.mp h
            obtain ⟨v42, hv42, h⟩ := Option.bind_eq_some_iff.mp h
            obtain ⟨l43, hl43, h⟩ := Option.bind_eq_some_iff.mp h
            refine q (st_setMT (κ := (Sum.inr : Str → Key)) (φ := (fun z1 : (Int × Int × Int) => D.tup [D.int z1.1, D.int z1.2.1, D.int z1.2.2])) (v := u41) (M' := []) inS (ev_someO (φ := (fun z1 : (Int × Int × Int) => D.tup [D.int z1.1, D.int z1.2.1, D.int z1.2.2])) (ev_var rfl) hu41) (by decide) (by decide) (pl_fld (pl_var rfl) rfl rfl (j := 2) (by decide +kernel) (by decide +kernel) k_GroveReader.cls k_GroveReader.n_own_males) rfl rfl (ev_op (ev_var rfl) ev_int (ty_ixL (φ := D.str) hv42)) hl43 ?_)
            show Dm.St K _ _ [.own (oO_GroveReader C_GroveReader ({ a0 with own_males := l43 })), .val (D.str a1), .val (D.lst (v1.map D.str)), .val (optD (fun z1 : (Int × Int × Int) => D.tup [D.int z1.1, D.int z1.2.1, D.int z1.2.2]) v35), .no] _
            cases h
            refine st_ret ev_bl ⟨rfl, rfl⟩
def F_bearing (a0 : (Int × Int)) (a1 : List Int) (a2 : Int) : Option Int :=
  (F_check_plants a0 a1).bind fun v1 =>
  (F_check_year a2).bind fun v2 =>
  (F_bearing_by a0 a1 a2).bind fun v3 =>
  some v3
def M_bearing : List Nat := []
def R_bearing (ds : List D) (x : Res) : Prop := ∃ (a0 : (Int × Int)) (a1 : List Int) (a2 : Int) (r : Int), F_bearing a0 a1 a2 = some r ∧ ds = [D.tup [D.int a0.1, D.int a0.2], D.tup (a1.map D.int), D.int a2] ∧ x = .v (D.int r)
theorem len_bearing : ∀ (vs : List V) (H : Hp) (Q : VK) (E : XK), spF K R_bearing vs H Q E → vs.length = 3 := spF_len (by rintro _ _ ⟨_, _, _, _, _, rfl, _⟩; rfl)
theorem p_bearing : ∀ ds x, R_bearing ds x → Dm.St K M_bearing (t_bearing K (spF K R_check_plants) (spF K R_check_year) (spF K R_bearing_by)) (ds.map Slot.val ++ List.replicate (N_bearing.length - ds.length) .no) (RetF x) := by
  rintro _ _ ⟨a0, a1, a2, r, h, rfl, rfl⟩
  show Dm.St K _ _ [.val (D.tup [D.int a0.1, D.int a0.2]), .val (D.tup (a1.map D.int)), .val (D.int a2)] _
  unfold F_bearing at h
  obtain ⟨v1, hv1, h⟩ := Option.bind_eq_some_iff.mp h
  refine q (st_drop (ev_callF (ea_cons (ev_var rfl) (ea_cons (ev_var rfl) ea_nil)) ⟨_, _, _, hv1, rfl, rfl⟩) ?_)
  show Dm.St K _ _ [.val (D.tup [D.int a0.1, D.int a0.2]), .val (D.tup (a1.map D.int)), .val (D.int a2)] _
  obtain ⟨v2, hv2, h⟩ := Option.bind_eq_some_iff.mp h
  refine q (st_drop (ev_callF (ea_cons (ev_var rfl) ea_nil) ⟨_, _, hv2, rfl, rfl⟩) ?_)
  show Dm.St K _ _ [.val (D.tup [D.int a0.1, D.int a0.2]), .val (D.tup (a1.map D.int)), .val (D.int a2)] _
  obtain ⟨v3, hv3, h⟩ := Option.bind_eq_some_iff.mp h
  cases h
  refine st_ret (ev_callF (ea_cons (ev_var rfl) (ea_cons (ev_var rfl) (ea_cons (ev_var rfl) ea_nil))) ⟨_, _, _, _, hv3, rfl, rfl⟩) rfl
def F_least_bearing (a0 : (Int × Int)) (a1 : List Int) : Option ((Int × Int)) :=
  (F_check_plants a0 a1).bind fun v1 =>
  (F_bearings_of a0 a1).bind fun v2 =>
  (pyMin v2).bind fun v3 =>
  (pyMin v2).bind fun v4 =>
  (pyIndex v2 v4).bind fun v5 =>
  some ((v3, v5))
def M_least_bearing : List Nat := []
def R_least_bearing (ds : List D) (x : Res) : Prop := ∃ (a0 : (Int × Int)) (a1 : List Int) (r : (Int × Int)), F_least_bearing a0 a1 = some r ∧ ds = [D.tup [D.int a0.1, D.int a0.2], D.tup (a1.map D.int)] ∧ x = .v (D.tup [D.int r.1, D.int r.2])
theorem len_least_bearing : ∀ (vs : List V) (H : Hp) (Q : VK) (E : XK), spF K R_least_bearing vs H Q E → vs.length = 2 := spF_len (by rintro _ _ ⟨_, _, _, _, rfl, _⟩; rfl)
theorem p_least_bearing : ∀ ds x, R_least_bearing ds x → Dm.St K M_least_bearing (t_least_bearing K (spF K R_check_plants) (spF K R_bearings_of)) (ds.map Slot.val ++ List.replicate (N_least_bearing.length - ds.length) .no) (RetF x) := by
  rintro _ _ ⟨a0, a1, r, h, rfl, rfl⟩
  show Dm.St K _ _ [.val (D.tup [D.int a0.1, D.int a0.2]), .val (D.tup (a1.map D.int)), .no] _
  unfold F_least_bearing at h
  obtain ⟨v1, hv1, h⟩ := Option.bind_eq_some_iff.mp h
  refine q (st_drop (ev_callF (ea_cons (ev_var rfl) (ea_cons (ev_var rfl) ea_nil)) ⟨_, _, _, hv1, rfl, rfl⟩) ?_)
  show Dm.St K _ _ [.val (D.tup [D.int a0.1, D.int a0.2]), .val (D.tup (a1.map D.int)), .no] _
  obtain ⟨v2, hv2, h⟩ := Option.bind_eq_some_iff.mp h
  refine q (st_asg (ev_callF (ea_cons (ev_var rfl) (ea_cons (ev_var rfl) ea_nil)) ⟨_, _, _, hv2, rfl, rfl⟩) ?_)
  show Dm.St K _ _ [.val (D.tup [D.int a0.1, D.int a0.2]), .val (D.tup (a1.map D.int)), .val (D.lst (v2.map D.int))] _
  obtain ⟨v3, hv3, h⟩ := Option.bind_eq_some_iff.mp h
  obtain ⟨v4, hv4, h⟩ := Option.bind_eq_some_iff.mp h
  obtain ⟨v5, hv5, h⟩ := Option.bind_eq_some_iff.mp h
  cases h
  refine st_ret (ev_tup (ea_cons (ev_cb (ea_cons (ev_var rfl) ea_nil) (ty_min hv3)) (ea_cons (ev_indexT (ev_var rfl) (ev_cb (ea_cons (ev_var rfl) ea_nil) (ty_min hv4)) hv5) ea_nil)) (Nat.le_of_ble_eq_true rfl)) rfl
def F_most_bearing (a0 : (Int × Int)) (a1 : List Int) : Option ((Int × Int)) :=
  (F_check_plants a0 a1).bind fun v1 =>
  (F_bearings_of a0 a1).bind fun v2 =>
  (pyMax v2).bind fun v3 =>
  (pyMax v2).bind fun v4 =>
  (pyIndex v2 v4).bind fun v5 =>
  some ((v3, v5))
def M_most_bearing : List Nat := []
def R_most_bearing (ds : List D) (x : Res) : Prop := ∃ (a0 : (Int × Int)) (a1 : List Int) (r : (Int × Int)), F_most_bearing a0 a1 = some r ∧ ds = [D.tup [D.int a0.1, D.int a0.2], D.tup (a1.map D.int)] ∧ x = .v (D.tup [D.int r.1, D.int r.2])
theorem len_most_bearing : ∀ (vs : List V) (H : Hp) (Q : VK) (E : XK), spF K R_most_bearing vs H Q E → vs.length = 2 := spF_len (by rintro _ _ ⟨_, _, _, _, rfl, _⟩; rfl)
theorem p_most_bearing : ∀ ds x, R_most_bearing ds x → Dm.St K M_most_bearing (t_most_bearing K (spF K R_check_plants) (spF K R_bearings_of)) (ds.map Slot.val ++ List.replicate (N_most_bearing.length - ds.length) .no) (RetF x) := by
  rintro _ _ ⟨a0, a1, r, h, rfl, rfl⟩
  show Dm.St K _ _ [.val (D.tup [D.int a0.1, D.int a0.2]), .val (D.tup (a1.map D.int)), .no] _
  unfold F_most_bearing at h
  obtain ⟨v1, hv1, h⟩ := Option.bind_eq_some_iff.mp h
  refine q (st_drop (ev_callF (ea_cons (ev_var rfl) (ea_cons (ev_var rfl) ea_nil)) ⟨_, _, _, hv1, rfl, rfl⟩) ?_)
  show Dm.St K _ _ [.val (D.tup [D.int a0.1, D.int a0.2]), .val (D.tup (a1.map D.int)), .no] _
  obtain ⟨v2, hv2, h⟩ := Option.bind_eq_some_iff.mp h
  refine q (st_asg (ev_callF (ea_cons (ev_var rfl) (ea_cons (ev_var rfl) ea_nil)) ⟨_, _, _, hv2, rfl, rfl⟩) ?_)
  show Dm.St K _ _ [.val (D.tup [D.int a0.1, D.int a0.2]), .val (D.tup (a1.map D.int)), .val (D.lst (v2.map D.int))] _
  obtain ⟨v3, hv3, h⟩ := Option.bind_eq_some_iff.mp h
  obtain ⟨v4, hv4, h⟩ := Option.bind_eq_some_iff.mp h
  obtain ⟨v5, hv5, h⟩ := Option.bind_eq_some_iff.mp h
  cases h
  refine st_ret (ev_tup (ea_cons (ev_cb (ea_cons (ev_var rfl) ea_nil) (ty_max hv3)) (ea_cons (ev_indexT (ev_var rfl) (ev_cb (ea_cons (ev_var rfl) ea_nil) (ty_max hv4)) hv5) ea_nil)) (Nat.le_of_ble_eq_true rfl)) rfl
def F_enough_plants (a0 : (Int × Int)) (a1 : Int) : Option ((Int × (List Int))) :=
  (F_check_enough a0 a1).bind fun v1 =>
  (F_even_plants a0 v1).bind fun v2 =>
  some ((v1, v2))
def M_enough_plants : List Nat := []
def R_enough_plants (ds : List D) (x : Res) : Prop := ∃ (a0 : (Int × Int)) (a1 : Int) (r : (Int × (List Int))), F_enough_plants a0 a1 = some r ∧ ds = [D.tup [D.int a0.1, D.int a0.2], D.int a1] ∧ x = .v (D.tup [D.int r.1, D.tup (r.2.map D.int)])
theorem len_enough_plants : ∀ (vs : List V) (H : Hp) (Q : VK) (E : XK), spF K R_enough_plants vs H Q E → vs.length = 2 := spF_len (by rintro _ _ ⟨_, _, _, _, rfl, _⟩; rfl)
theorem p_enough_plants : ∀ ds x, R_enough_plants ds x → Dm.St K M_enough_plants (t_enough_plants K (spF K R_check_enough) (spF K R_even_plants)) (ds.map Slot.val ++ List.replicate (N_enough_plants.length - ds.length) .no) (RetF x) := by
  rintro _ _ ⟨a0, a1, r, h, rfl, rfl⟩
  show Dm.St K _ _ [.val (D.tup [D.int a0.1, D.int a0.2]), .val (D.int a1), .no] _
  unfold F_enough_plants at h
  obtain ⟨v1, hv1, h⟩ := Option.bind_eq_some_iff.mp h
  refine q (st_asg (ev_callF (ea_cons (ev_var rfl) (ea_cons (ev_var rfl) ea_nil)) ⟨_, _, _, hv1, rfl, rfl⟩) ?_)
  show Dm.St K _ _ [.val (D.tup [D.int a0.1, D.int a0.2]), .val (D.int a1), .val (D.int v1)] _
  obtain ⟨v2, hv2, h⟩ := Option.bind_eq_some_iff.mp h
  cases h
  refine st_ret (ev_tup (ea_cons (ev_var rfl) (ea_cons (ev_callF (ea_cons (ev_var rfl) (ea_cons (ev_var rfl) ea_nil)) ⟨_, _, _, hv2, rfl, rfl⟩) ea_nil)) (Nat.le_of_ble_eq_true rfl)) rfl
def F_told_years (a0 : O_Grove) (a1 : O_Grove → (Bool × List Str) → Option (List Int)) (a2 : Str) : Option D :=
  (F_Grove_palm_names a0).bind fun v1 =>
  (a1 a0 ((true, v1))).bind fun v2 =>
  (pyEq (D.lst (v2.map D.int)) (D.lst ((([] : List Int)).map D.int))).bind fun v6 =>
  if (!v6) = true then (pyIx v2 ((0 : Int))).bind fun v7 =>
  (F_lap_of v2).bind fun v8 =>
  some ((D.tup [D.str (((("year" : Str), v7, v8)).1), D.int (((("year" : Str), v7, v8)).2.1), D.int (((("year" : Str), v7, v8)).2.2)])) else
  (F_lots_by_size v1).bind fun v9 =>
  (lcM (fun x10 => (a1 a0 ((false, x10))).bind fun v11 =>
  (pyEq (D.lst (v11.map D.int)) (D.lst ((([] : List Int)).map D.int))).bind fun v12 =>
  some v12) (fun x10 => some x10) v9).bind fun l13 =>
  (pyIx l13 ((0 : Int))).bind fun v15 =>
  some ((D.tup [D.str (((a2, v15)).1), D.tup ((((a2, v15)).2).map D.str)]))
def RH_told_years_years_in (C_Grove : Addr) (f : O_Grove → (Bool × List Str) → Option (List Int)) (ds : List D) (x : Res) : Prop := ∃ (b0 : O_Grove) (b1 : Bool × List Str) (r : List Int), f b0 b1 = some r ∧ ds = [dO_Grove C_Grove b0, sqD D.str b1] ∧ x = .v (D.lst (r.map D.int))
def M_told_years : List Nat := []
def R_told_years (K : PySem.W.Frag) (C_Grove : Addr) (S_years_in : Addr → Option Sp) (ds : List D) (x : Res) : Prop := ∃ (a0 : O_Grove) (a1 : O_Grove → (Bool × List Str) → Option (List Int)) (a2 : Str) (r : D) (A_a1 : Addr), F_told_years a0 a1 a2 = some r ∧ S_years_in A_a1 = some (spF K (RH_told_years_years_in C_Grove a1)) ∧ ds = [dO_Grove C_Grove a0, D.adr A_a1, D.str a2] ∧ x = .v (r)
theorem len_told_years  {C_Grove : Addr} {S_years_in : Addr → Option Sp} : ∀ (vs : List V) (H : Hp) (Q : VK) (E : XK), spF K (R_told_years K C_Grove S_years_in) vs H Q E → vs.length = 3 := spF_len (by rintro _ _ ⟨_, _, _, _, _, _, _, rfl, _⟩; rfl)
theorem p_told_years {C_Grove : Addr} {S_years_in : Addr → Option Sp} (k_Grove : CK_Grove K C_Grove) : ∀ ds x, R_told_years K C_Grove S_years_in ds x → Dm.St K M_told_years (t_told_years K C_Grove (spF K (R_Grove_palm_names C_Grove)) (spF K R_lap_of) (spF K R_lots_by_size) S_years_in) (ds.map Slot.val ++ List.replicate (N_told_years.length - ds.length) .no) (RetF x) := by
  rintro _ _ ⟨a0, a1, a2, r, A_a1, h, hS_a1, rfl, rfl⟩
  show Dm.St K _ _ [.val (dO_Grove C_Grove a0), .val (D.adr A_a1), .val (D.str a2), .no, .no, .no] _
  unfold F_told_years at h
  obtain ⟨v1, hv1, h⟩ := Option.bind_eq_some_iff.mp h
  refine q (st_asg (ev_methF (ev_var rfl) (by decide +kernel) ea_nil ⟨_, _, hv1, rfl, rfl⟩) ?_)
  show Dm.St K _ _ [.val (dO_Grove C_Grove a0), .val (D.adr A_a1), .val (D.str a2), .val (D.lst (v1.map D.str)), .no, .no] _
  obtain ⟨v2, hv2, h⟩ := Option.bind_eq_some_iff.mp h
  refine q (st_asg (ev_callA rfl hS_a1 (ea_cons (ev_var rfl) (ea_cons (ev_is (ev_var rfl) (by rfl)) ea_nil)) ⟨_, _, _, hv2, rfl, rfl⟩) ?_)
  show Dm.St K _ _ [.val (dO_Grove C_Grove a0), .val (D.adr A_a1), .val (D.str a2), .val (D.lst (v1.map D.str)), .val (D.lst (v2.map D.int)), .no] _
  obtain ⟨v6, hv6, h⟩ := Option.bind_eq_some_iff.mp h
  refine q_if (et_test (ev_op (ev_var rfl) (ev_fzT (ew_is (ew_lst ea_nil (Nat.le_of_ble_eq_true rfl)) (by rfl))) (ty_ne hv6))) (fun hc => ?kt3) (fun hc => ?kf4)
  case kt3 =>
    rw [if_pos hc] at h
    obtain ⟨v7, hv7, h⟩ := Option.bind_eq_some_iff.mp h
    obtain ⟨v8, hv8, h⟩ := Option.bind_eq_some_iff.mp h
    cases h
    refine st_ret (ev_tup (ea_cons ev_str (ea_cons (ev_op (ev_var rfl) ev_int (ty_ixL (φ := D.int) hv7)) (ea_cons (ev_callF (ea_cons (ev_var rfl) ea_nil) ⟨_, _, hv8, rfl, rfl⟩) ea_nil))) (Nat.le_of_ble_eq_true rfl)) rfl
  case kf4 =>
    rw [if_neg (by rw [hc]; exact Bool.false_ne_true)] at h
    refine st_next ?_
    show Dm.St K _ _ [.val (dO_Grove C_Grove a0), .val (D.adr A_a1), .val (D.str a2), .val (D.lst (v1.map D.str)), .val (D.lst (v2.map D.int)), .no] _
    obtain ⟨v9, hv9, h⟩ := Option.bind_eq_some_iff.mp h
    obtain ⟨l13, hl13, h⟩ := Option.bind_eq_some_iff.mp h
    obtain ⟨v15, hv15, h⟩ := Option.bind_eq_some_iff.mp h
    cases h
    refine st_ret (ev_tup (ea_cons (ev_var rfl) (ea_cons (ev_op (ev_fzT (ew_lcT (φ := (fun z1 : List Str => D.tup (z1.map D.str))) (ψ := (fun z1 : List Str => D.tup (z1.map D.str))) (it_anyL (ev_callF (ea_cons (ev_var rfl) ea_nil) ⟨_, _, hv9, rfl, rfl⟩)) hl13 (fun _ => trivial) rfl ?k14)) ev_int (ty_ixL (φ := (fun z1 : List Str => D.tup (z1.map D.str))) hv15)) ea_nil)) (Nat.le_of_ble_eq_true rfl)) rfl
    case k14 =>
      intro x10 hx
      refine turn1 (e' := _) (gd_name (by decide)) ?_ ?_
      · intro b hb
        obtain ⟨v11, hv11, hb⟩ := Option.bind_eq_some_iff.mp hb
        obtain ⟨v12, hv12, hb⟩ := Option.bind_eq_some_iff.mp hb
        cases hb
        refine (et_test (ev_op (ev_callA rfl hS_a1 (ea_cons (ev_var rfl) (ea_cons (ev_is (ev_var rfl) (by rfl)) ea_nil)) ⟨_, _, _, hv11, rfl, rfl⟩) (ev_fzT (ew_is (ew_lst ea_nil (Nat.le_of_ble_eq_true rfl)) (by rfl))) (ty_eq hv12)))
      · intro y hc hb
        cases hb
        refine (ev_var rfl)
def F_most_baskets (a0 : O_Grove) : Option ((Int × Int)) :=
  (F_check_grove a0).bind fun v1 =>
  (F_sums_of a0).bind fun v2 =>
  (pyMax v2).bind fun v3 =>
  (pyMax v2).bind fun v4 =>
  (pyIndex v2 v4).bind fun v5 =>
  some ((v3, v5))
def M_most_baskets : List Nat := []
def R_most_baskets (C_Grove : Addr) (ds : List D) (x : Res) : Prop := ∃ (a0 : O_Grove) (r : (Int × Int)), F_most_baskets a0 = some r ∧ ds = [dO_Grove C_Grove a0] ∧ x = .v (D.tup [D.int r.1, D.int r.2])
theorem len_most_baskets {C_Grove : Addr} : ∀ (vs : List V) (H : Hp) (Q : VK) (E : XK), spF K (R_most_baskets C_Grove) vs H Q E → vs.length = 1 := spF_len (by rintro _ _ ⟨_, _, _, rfl, _⟩; rfl)
theorem p_most_baskets {C_Grove : Addr} : ∀ ds x, R_most_baskets C_Grove ds x → Dm.St K M_most_baskets (t_most_baskets K (spF K (R_check_grove C_Grove)) (spF K (R_sums_of C_Grove))) (ds.map Slot.val ++ List.replicate (N_most_baskets.length - ds.length) .no) (RetF x) := by
  rintro _ _ ⟨a0, r, h, rfl, rfl⟩
  show Dm.St K _ _ [.val (dO_Grove C_Grove a0), .no] _
  unfold F_most_baskets at h
  obtain ⟨v1, hv1, h⟩ := Option.bind_eq_some_iff.mp h
  refine q (st_drop (ev_callF (ea_cons (ev_var rfl) ea_nil) ⟨_, _, hv1, rfl, rfl⟩) ?_)
  show Dm.St K _ _ [.val (dO_Grove C_Grove a0), .no] _
  obtain ⟨v2, hv2, h⟩ := Option.bind_eq_some_iff.mp h
  refine q (st_asg (ev_callF (ea_cons (ev_var rfl) ea_nil) ⟨_, _, hv2, rfl, rfl⟩) ?_)
  show Dm.St K _ _ [.val (dO_Grove C_Grove a0), .val (D.lst (v2.map D.int))] _
  obtain ⟨v3, hv3, h⟩ := Option.bind_eq_some_iff.mp h
  obtain ⟨v4, hv4, h⟩ := Option.bind_eq_some_iff.mp h
  obtain ⟨v5, hv5, h⟩ := Option.bind_eq_some_iff.mp h
  cases h
  refine st_ret (ev_tup (ea_cons (ev_cb (ea_cons (ev_var rfl) ea_nil) (ty_max hv3)) (ea_cons (ev_indexT (ev_var rfl) (ev_cb (ea_cons (ev_var rfl) ea_nil) (ty_max hv4)) hv5) ea_nil)) (Nat.le_of_ble_eq_true rfl)) rfl
def F_least_baskets (a0 : O_Grove) : Option ((Int × Int)) :=
  (F_check_grove a0).bind fun v1 =>
  (F_sums_of a0).bind fun v2 =>
  (pyMin v2).bind fun v3 =>
  (pyMin v2).bind fun v4 =>
  (pyIndex v2 v4).bind fun v5 =>
  some ((v3, v5))
def M_least_baskets : List Nat := []
def R_least_baskets (C_Grove : Addr) (ds : List D) (x : Res) : Prop := ∃ (a0 : O_Grove) (r : (Int × Int)), F_least_baskets a0 = some r ∧ ds = [dO_Grove C_Grove a0] ∧ x = .v (D.tup [D.int r.1, D.int r.2])
theorem len_least_baskets {C_Grove : Addr} : ∀ (vs : List V) (H : Hp) (Q : VK) (E : XK), spF K (R_least_baskets C_Grove) vs H Q E → vs.length = 1 := spF_len (by rintro _ _ ⟨_, _, _, rfl, _⟩; rfl)
theorem p_least_baskets {C_Grove : Addr} : ∀ ds x, R_least_baskets C_Grove ds x → Dm.St K M_least_baskets (t_least_baskets K (spF K (R_check_grove C_Grove)) (spF K (R_sums_of C_Grove))) (ds.map Slot.val ++ List.replicate (N_least_baskets.length - ds.length) .no) (RetF x) := by
  rintro _ _ ⟨a0, r, h, rfl, rfl⟩
  show Dm.St K _ _ [.val (dO_Grove C_Grove a0), .no] _
  unfold F_least_baskets at h
  obtain ⟨v1, hv1, h⟩ := Option.bind_eq_some_iff.mp h
  refine q (st_drop (ev_callF (ea_cons (ev_var rfl) ea_nil) ⟨_, _, hv1, rfl, rfl⟩) ?_)
  show Dm.St K _ _ [.val (dO_Grove C_Grove a0), .no] _
  obtain ⟨v2, hv2, h⟩ := Option.bind_eq_some_iff.mp h
  refine q (st_asg (ev_callF (ea_cons (ev_var rfl) ea_nil) ⟨_, _, hv2, rfl, rfl⟩) ?_)
  show Dm.St K _ _ [.val (dO_Grove C_Grove a0), .val (D.lst (v2.map D.int))] _
  obtain ⟨v3, hv3, h⟩ := Option.bind_eq_some_iff.mp h
  obtain ⟨v4, hv4, h⟩ := Option.bind_eq_some_iff.mp h
  obtain ⟨v5, hv5, h⟩ := Option.bind_eq_some_iff.mp h
  cases h
  refine st_ret (ev_tup (ea_cons (ev_cb (ea_cons (ev_var rfl) ea_nil) (ty_min hv3)) (ea_cons (ev_indexT (ev_var rfl) (ev_cb (ea_cons (ev_var rfl) ea_nil) (ty_min hv4)) hv5) ea_nil)) (Nat.le_of_ble_eq_true rfl)) rfl
def F_mean_baskets (a0 : O_Grove) : Option ((Int × Int)) :=
  (F_check_grove a0).bind fun v1 =>
  (F_sums_of a0).bind fun v2 =>
  (F_reduced v2.sum ((60 : Int))).bind fun v3 =>
  some v3
def M_mean_baskets : List Nat := []
def R_mean_baskets (C_Grove : Addr) (ds : List D) (x : Res) : Prop := ∃ (a0 : O_Grove) (r : (Int × Int)), F_mean_baskets a0 = some r ∧ ds = [dO_Grove C_Grove a0] ∧ x = .v (D.tup [D.int r.1, D.int r.2])
theorem len_mean_baskets {C_Grove : Addr} : ∀ (vs : List V) (H : Hp) (Q : VK) (E : XK), spF K (R_mean_baskets C_Grove) vs H Q E → vs.length = 1 := spF_len (by rintro _ _ ⟨_, _, _, rfl, _⟩; rfl)
theorem p_mean_baskets {C_Grove : Addr} : ∀ ds x, R_mean_baskets C_Grove ds x → Dm.St K M_mean_baskets (t_mean_baskets K (spF K (R_check_grove C_Grove)) (spF K R_reduced) (spF K (R_sums_of C_Grove))) (ds.map Slot.val ++ List.replicate (N_mean_baskets.length - ds.length) .no) (RetF x) := by
  rintro _ _ ⟨a0, r, h, rfl, rfl⟩
  show Dm.St K _ _ [.val (dO_Grove C_Grove a0)] _
  unfold F_mean_baskets at h
  obtain ⟨v1, hv1, h⟩ := Option.bind_eq_some_iff.mp h
  refine q (st_drop (ev_callF (ea_cons (ev_var rfl) ea_nil) ⟨_, _, hv1, rfl, rfl⟩) ?_)
  show Dm.St K _ _ [.val (dO_Grove C_Grove a0)] _
  obtain ⟨v2, hv2, h⟩ := Option.bind_eq_some_iff.mp h
  obtain ⟨v3, hv3, h⟩ := Option.bind_eq_some_iff.mp h
  cases h
  refine st_ret (ev_callF (ea_cons (ev_cb (ea_cons (ev_callF (ea_cons (ev_var rfl) ea_nil) ⟨_, _, hv2, rfl, rfl⟩) ea_nil) d_sum) (ea_cons ev_int ea_nil)) ⟨_, _, _, hv3, rfl, rfl⟩) rfl
def F_how_many_with (a0 : O_Grove) (a1 : Int) : Option Int :=
  (F_check_baskets a0 a1).bind fun v1 =>
  (F_sums_of a0).bind fun v2 =>
  (lcM (fun x3 => some ((decide (a1 ≤ x3)))) (fun x3 => some x3) v2).bind fun l4 =>
  some ((l4.length : Int))
def M_how_many_with : List Nat := []
def R_how_many_with (C_Grove : Addr) (ds : List D) (x : Res) : Prop := ∃ (a0 : O_Grove) (a1 : Int) (r : Int), F_how_many_with a0 a1 = some r ∧ ds = [dO_Grove C_Grove a0, D.int a1] ∧ x = .v (D.int r)
theorem len_how_many_with {C_Grove : Addr} : ∀ (vs : List V) (H : Hp) (Q : VK) (E : XK), spF K (R_how_many_with C_Grove) vs H Q E → vs.length = 2 := spF_len (by rintro _ _ ⟨_, _, _, _, rfl, _⟩; rfl)
theorem p_how_many_with {C_Grove : Addr} : ∀ ds x, R_how_many_with C_Grove ds x → Dm.St K M_how_many_with (t_how_many_with K (spF K (R_check_baskets C_Grove)) (spF K (R_sums_of C_Grove))) (ds.map Slot.val ++ List.replicate (N_how_many_with.length - ds.length) .no) (RetF x) := by
  rintro _ _ ⟨a0, a1, r, h, rfl, rfl⟩
  show Dm.St K _ _ [.val (dO_Grove C_Grove a0), .val (D.int a1), .no] _
  unfold F_how_many_with at h
  obtain ⟨v1, hv1, h⟩ := Option.bind_eq_some_iff.mp h
  refine q (st_drop (ev_callF (ea_cons (ev_var rfl) (ea_cons (ev_var rfl) ea_nil)) ⟨_, _, _, hv1, rfl, rfl⟩) ?_)
  show Dm.St K _ _ [.val (dO_Grove C_Grove a0), .val (D.int a1), .no] _
  obtain ⟨v2, hv2, h⟩ := Option.bind_eq_some_iff.mp h
  obtain ⟨l4, hl4, h⟩ := Option.bind_eq_some_iff.mp h
  cases h
  refine st_ret (ev_cb (ea_cons (ev_fzT (ew_lcT (φ := D.int) (ψ := D.int) (it_anyL (ev_callF (ea_cons (ev_var rfl) ea_nil) ⟨_, _, hv2, rfl, rfl⟩)) hl4 (fun _ => trivial) rfl ?k5)) ea_nil) (ty_lenL (φ := D.int))) rfl
  case k5 =>
    intro x3 hx
    refine turn1 (e' := _) (gd_name (by decide)) ?_ ?_
    · intro b hb
      cases hb
      refine (et_test (ev_op (ev_var rfl) (ev_var rfl) d_ge))
    · intro y hc hb
      cases hb
      refine (ev_var rfl)
def F_evenest (a0 : O_Grove) : Option ((Int × (List Int))) :=
  (F_check_shifts_few a0).bind fun v1 =>
  (F_told_evenest a0).bind fun v2 =>
  some v2
def M_evenest : List Nat := []
def R_evenest (C_Grove : Addr) (ds : List D) (x : Res) : Prop := ∃ (a0 : O_Grove) (r : (Int × (List Int))), F_evenest a0 = some r ∧ ds = [dO_Grove C_Grove a0] ∧ x = .v (D.tup [D.int r.1, D.tup (r.2.map D.int)])
theorem len_evenest {C_Grove : Addr} : ∀ (vs : List V) (H : Hp) (Q : VK) (E : XK), spF K (R_evenest C_Grove) vs H Q E → vs.length = 1 := spF_len (by rintro _ _ ⟨_, _, _, rfl, _⟩; rfl)
theorem p_evenest {C_Grove : Addr} : ∀ ds x, R_evenest C_Grove ds x → Dm.St K M_evenest (t_evenest K (spF K (R_check_shifts_few C_Grove)) (spF K (R_told_evenest C_Grove))) (ds.map Slot.val ++ List.replicate (N_evenest.length - ds.length) .no) (RetF x) := by
  rintro _ _ ⟨a0, r, h, rfl, rfl⟩
  show Dm.St K _ _ [.val (dO_Grove C_Grove a0)] _
  unfold F_evenest at h
  obtain ⟨v1, hv1, h⟩ := Option.bind_eq_some_iff.mp h
  refine q (st_drop (ev_callF (ea_cons (ev_var rfl) ea_nil) ⟨_, _, hv1, rfl, rfl⟩) ?_)
  show Dm.St K _ _ [.val (dO_Grove C_Grove a0)] _
  obtain ⟨v2, hv2, h⟩ := Option.bind_eq_some_iff.mp h
  cases h
  refine st_ret (ev_callF (ea_cons (ev_var rfl) ea_nil) ⟨_, _, hv2, rfl, rfl⟩) rfl
def F_Grove___init__ (a1 : Str) : Option ((Unit × O_Grove)) :=
  if (!true) = true then none else
  (F_GroveReader___init__).bind fun p4 =>
  (pySplit a1 (("\n" : Str))).bind fun v5 =>
  (forL (σ := O_GroveReader) (fun x11 s10 => (F_GroveReader_takes s10 x11.2).bind fun p16 =>
  if (!p16.1) = true then none else some p16.2) (enumI v5) p4.2).bind fun s12 =>
  if s12.own_palms.isEmpty = true then none else
  some ((), (⟨a1, s12.own_head, s12.own_palms, s12.own_males⟩ : O_Grove))
def M_Grove___init__ : List Nat := [0, 2]
def R_Grove___init__ (C_Grove : Addr) (o : OD) (ds : List D) (x : Res) (o' : OD) : Prop := ∃ (a1 : Str) (r : Unit) (s : O_Grove), F_Grove___init__ a1 = some (r, s) ∧ o = OD.obj C_Grove [] [] ∧ ds = [D.str a1] ∧ x = .v (D.non) ∧ o' = oO_Grove C_Grove s
theorem len_Grove___init__ {C_Grove : Addr} : ∀ (vs : List V) (H : Hp) (Q : VK) (E : XK), spO K (R_Grove___init__ C_Grove) vs H Q E → vs.length = 2 := spO_len (by rintro _ _ _ _ ⟨_, _, _, _, rfl, rfl, _⟩; rfl)
theorem p_Grove___init__ {C_Grove : Addr} {C_GroveReader : Addr} (k_Grove : CK_Grove K C_Grove) (k_GroveReader : CK_GroveReader K C_GroveReader) : ∀ o ds x o', R_Grove___init__ C_Grove o ds x o' → Dm.St K M_Grove___init__ (t_Grove___init__ K C_GroveReader (spO K (R_GroveReader___init__ C_GroveReader)) (spO K (R_GroveReader_takes C_GroveReader))) (.own o :: (ds.map Slot.val ++ List.replicate (N_Grove___init__.length - (ds.length + 1)) .no)) (RetO x o') := by
  rintro _ _ _ _ ⟨a1, r, s, h, rfl, rfl, rfl, rfl⟩
  show Dm.St K _ _ [.own (OD.obj C_Grove [] []), .val (D.str a1), .no, .no, .no, .no] _
  unfold F_Grove___init__ at h
  refine q_if (et_not (et_B (ev_cb (ea_cons (ev_var rfl) (ea_cons ev_ty ea_nil)) (d_isiTy (b := true) rfl (by decide +kernel))))) (fun hc => ?kt1) (fun hc => ?kf2)
  case kt1 =>
    rw [if_pos hc] at h
    cases h
  case kf2 =>
    rw [if_neg (by rw [hc]; exact Bool.false_ne_true)] at h
    refine st_next ?_
    show Dm.St K _ _ [.own (OD.obj C_Grove [] []), .val (D.str a1), .no, .no, .no, .no] _
    obtain ⟨p4, hp4, h⟩ := Option.bind_eq_some_iff.mp h
    obtain ⟨v5, hv5, h⟩ := Option.bind_eq_some_iff.mp h
    refine q (st_parW (ew_make ea_nil ⟨_, _, hp4, rfl, rfl, rfl, rfl⟩) (ev_splitT (ev_var rfl) ev_str hv5) (by decide) (by decide) (by decide) ?_)
    show Dm.St K _ _ [.own (OD.obj C_Grove [] []), .val (D.str a1), .own (oO_GroveReader C_GroveReader p4.2), .val (D.lst (v5.map D.str)), .no, .no] _
    obtain ⟨s12, hs12, h⟩ := Option.bind_eq_some_iff.mp h
    refine q (st_forL (vs := List.range 60) (Mb := M_Grove___init__) (φ := (fun z1 : (Int × Str) => D.tup [D.int z1.1, D.str z1.2])) (J := fun s10 : O_GroveReader => [.own (OD.obj C_Grove [] []), .val (D.str a1), .own (oO_GroveReader C_GroveReader s10), .val (D.lst (v5.map D.str)), .no, .no]) (it_enL (φ := D.str) (ea_cons (ev_var rfl) ea_nil)) hs12 (fun _ z => z) (.same (.same (.same (.same (.same (.same .nil)))))) (fun _ _ _ _ => trivial) ?kb6 ?kn7)
    case kb6 =>
      intro x11 hx s10 s' hb
      refine ⟨_, (gd_tupU (gs_cons (gd_name (by decide)) (gs_cons (gd_name (by decide)) gs_nil)) rfl), ?_⟩
      obtain ⟨p16, hp16, hb⟩ := Option.bind_eq_some_iff.mp hb
      refine st_if (et_not (et_B (ev_methO (M' := []) (pl_var rfl) (by decide +kernel) (ea_cons (ev_var rfl) ea_nil) (by decide) (by decide) (by decide) rfl rfl rfl ⟨_, _, _, _, hp16, rfl, rfl, rfl, rfl⟩))) (fun hc => ?kt13) (fun hc => ?kf14)
      case kt13 =>
        rw [if_pos hc] at hb
        cases hb
      case kf14 =>
        rw [if_neg (by rw [hc]; exact Bool.false_ne_true)] at hb
        refine st_next ?_
        cases hb
        exact (.same (.same (.same (.same (.drop (.drop .nil))))))
    case kn7 =>
      show Dm.St K _ _ [.own (OD.obj C_Grove [] []), .val (D.str a1), .own (oO_GroveReader C_GroveReader s12), .val (D.lst (v5.map D.str)), .no, .no] _
      refine q_if (et_test (pl_eqM (κ := (Sum.inr : Str → Key)) (φ := (fun z1 : (Int × Int × Int × Str × Int) => D.tup [D.int z1.1, D.int z1.2.1, D.int z1.2.2.1, D.str z1.2.2.2.1, D.int z1.2.2.2.2])) (pl_fld (pl_var rfl) rfl rfl (j := 1) (by decide +kernel) (by decide +kernel) k_GroveReader.cls k_GroveReader.n_own_palms) rfl rfl)) (fun hc => ?kt17) (fun hc => ?kf18)
      case kt17 =>
        rw [if_pos hc] at h
        cases h
      case kf18 =>
        rw [if_neg (by rw [hc]; exact Bool.false_ne_true)] at h
        refine st_next ?_
        show Dm.St K _ _ [.own (OD.obj C_Grove [] []), .val (D.str a1), .own (oO_GroveReader C_GroveReader s12), .val (D.lst (v5.map D.str)), .no, .no] _
        refine q (st_fldNew (M' := []) (ew_val (ev_var rfl)) (by decide) (by decide) (pl_var rfl) rfl rfl k_Grove.cls k_Grove.n_own_text (by decide) (by decide +kernel) ?_)
        show Dm.St K _ _ [.own (OD.obj C_Grove [("own_text" : Str)] [.val (D.str a1)]), .val (D.str a1), .own (oO_GroveReader C_GroveReader s12), .val (D.lst (v5.map D.str)), .no, .no] _
        refine q (st_fldNew (M' := []) (ew_val (ev_leaf (pl_fld (pl_var rfl) rfl rfl (j := 0) (by decide +kernel) (by decide +kernel) k_GroveReader.cls k_GroveReader.n_own_head) rfl rfl)) (by decide) (by decide) (pl_var rfl) rfl rfl k_Grove.cls k_Grove.n_own_head (by decide) (by decide +kernel) ?_)
        show Dm.St K _ _ [.own (OD.obj C_Grove [("own_text" : Str), ("own_head" : Str)] [.val (D.str a1), .val (optD (fun z1 : (Int × Int) => D.tup [D.int z1.1, D.int z1.2]) s12.own_head)]), .val (D.str a1), .own (oO_GroveReader C_GroveReader s12), .val (D.lst (v5.map D.str)), .no, .no] _
        refine st_fz (i := 2) rfl fz_O_GroveReader ?_
        show Dm.St K _ _ [.own (OD.obj C_Grove [("own_text" : Str), ("own_head" : Str)] [.val (D.str a1), .val (optD (fun z1 : (Int × Int) => D.tup [D.int z1.1, D.int z1.2]) s12.own_head)]), .val (D.str a1), .val (dO_GroveReader C_GroveReader s12), .val (D.lst (v5.map D.str)), .no, .no] _
        refine q (st_fldNew (M' := []) (ew_val (ev_fldS (ev_var rfl) (by rfl) k_GroveReader.cls k_GroveReader.n_own_palms)) (by decide) (by decide) (pl_var rfl) rfl rfl k_Grove.cls k_Grove.n_own_palms (by decide) (by decide +kernel) ?_)
        show Dm.St K _ _ [.own (OD.obj C_Grove [("own_text" : Str), ("own_head" : Str), ("own_palms" : Str)] [.val (D.str a1), .val (optD (fun z1 : (Int × Int) => D.tup [D.int z1.1, D.int z1.2]) s12.own_head), .val (mD (Sum.inr : Str → Key) (fun z1 : (Int × Int × Int × Str × Int) => D.tup [D.int z1.1, D.int z1.2.1, D.int z1.2.2.1, D.str z1.2.2.2.1, D.int z1.2.2.2.2]) s12.own_palms)]), .val (D.str a1), .val (dO_GroveReader C_GroveReader s12), .val (D.lst (v5.map D.str)), .no, .no] _
        refine st_fldNew (M' := []) (ew_val (ev_fldS (ev_var rfl) (by rfl) k_GroveReader.cls k_GroveReader.n_own_males)) (by decide) (by decide) (pl_var rfl) rfl rfl k_Grove.cls k_Grove.n_own_males (by decide) (by decide +kernel) ?_
        cases h
        exact ⟨rfl, rfl⟩
def F_all_bear (a0 : O_Grove) : Option D :=
  (F_check_grove a0).bind fun v1 =>
  (F_told_years a0 F_years_of_lot (("never" : Str))).bind fun v2 =>
  some v2
def M_all_bear : List Nat := []
def R_all_bear (C_Grove : Addr) (ds : List D) (x : Res) : Prop := ∃ (a0 : O_Grove) (r : D), F_all_bear a0 = some r ∧ ds = [dO_Grove C_Grove a0] ∧ x = .v (r)
theorem len_all_bear {C_Grove : Addr} : ∀ (vs : List V) (H : Hp) (Q : VK) (E : XK), spF K (R_all_bear C_Grove) vs H Q E → vs.length = 1 := spF_len (by rintro _ _ ⟨_, _, _, rfl, _⟩; rfl)
theorem p_all_bear {C_Grove : Addr} {f_years_of_lot : Addr} {S_years_in : Addr → Option Sp} (hS_years_in_years_of_lot : S_years_in f_years_of_lot = some (spF K (R_years_of_lot C_Grove))) : ∀ ds x, R_all_bear C_Grove ds x → Dm.St K M_all_bear (t_all_bear K f_years_of_lot (spF K (R_check_grove C_Grove)) (spF K (R_told_years K C_Grove S_years_in))) (ds.map Slot.val ++ List.replicate (N_all_bear.length - ds.length) .no) (RetF x) := by
  rintro _ _ ⟨a0, r, h, rfl, rfl⟩
  show Dm.St K _ _ [.val (dO_Grove C_Grove a0)] _
  unfold F_all_bear at h
  obtain ⟨v1, hv1, h⟩ := Option.bind_eq_some_iff.mp h
  refine q (st_drop (ev_callF (ea_cons (ev_var rfl) ea_nil) ⟨_, _, hv1, rfl, rfl⟩) ?_)
  show Dm.St K _ _ [.val (dO_Grove C_Grove a0)] _
  obtain ⟨v2, hv2, h⟩ := Option.bind_eq_some_iff.mp h
  cases h
  refine st_ret (ev_callF (ea_cons (ev_var rfl) (ea_cons ev_adr (ea_cons ev_str ea_nil))) ⟨_, _, _, _, f_years_of_lot, hv2, hS_years_in_years_of_lot, rfl, rfl⟩) rfl
def F_grove_of (a0 : Int) (a1 : Int) (a2 : List ((Str × Int × Int × Int × Str × Int))) (a3 : List ((Str × Int × Int × Int))) : Option O_Grove :=
  (pyStr a0).bind fun v1 =>
  (pyStr a1).bind fun v2 =>
  (pyJoin ((" " : Str)) (([("grove" : Str), v1, v2] : List Str))).bind fun v3 =>
  (forL (σ := (List Str)) (fun x9 s8 => (lcM (fun x11 => some true) (fun x11 => (lcM (fun x12 => some true) (fun x12 => (pyStrD x12).bind fun v13 =>
  some v13) x11).bind fun l14 =>
  (pyCat (([x9.1] : List Str)) l14).bind fun v16 =>
  (pyJoin ((" " : Str)) v16).bind fun v17 =>
  some v17) x9.2.2).bind fun l18 =>
  (pyExt s8 l18).bind fun l20 =>
  some l20) (([(("palm" : Str), (true, a2.map (fun y1 : (Str × Int × Int × Int × Str × Int) => ([D.str y1.1, D.int y1.2.1, D.int y1.2.2.1, D.int y1.2.2.2.1, D.str y1.2.2.2.2.1, D.int y1.2.2.2.2.2] : List D)))), (("male" : Str), (false, a3.map (fun y1 : (Str × Int × Int × Int) => ([D.str y1.1, D.int y1.2.1, D.int y1.2.2.1, D.int y1.2.2.2] : List D))))] : List ((Str × (Bool × List (List D)))))) (([v3] : List Str))).bind fun s10 =>
  (pyJoin (("\n" : Str)) s10).bind fun v22 =>
  (F_Grove___init__ v22).bind fun p23 =>
  some p23.2
def M_grove_of : List Nat := [4]
def R_grove_of (C_Grove : Addr) (ds : List D) (x : Res) : Prop := ∃ (a0 : Int) (a1 : Int) (a2 : List ((Str × Int × Int × Int × Str × Int))) (a3 : List ((Str × Int × Int × Int))) (r : O_Grove), F_grove_of a0 a1 a2 a3 = some r ∧ ds = [D.int a0, D.int a1, D.lst (a2.map (fun z1 : (Str × Int × Int × Int × Str × Int) => D.tup [D.str z1.1, D.int z1.2.1, D.int z1.2.2.1, D.int z1.2.2.2.1, D.str z1.2.2.2.2.1, D.int z1.2.2.2.2.2])), D.tup (a3.map (fun z1 : (Str × Int × Int × Int) => D.tup [D.str z1.1, D.int z1.2.1, D.int z1.2.2.1, D.int z1.2.2.2]))] ∧ x = .v (dO_Grove C_Grove r)
theorem len_grove_of {C_Grove : Addr} : ∀ (vs : List V) (H : Hp) (Q : VK) (E : XK), spF K (R_grove_of C_Grove) vs H Q E → vs.length = 4 := spF_len (by rintro _ _ ⟨_, _, _, _, _, _, rfl, _⟩; rfl)
theorem p_grove_of {C_Grove : Addr} : ∀ ds x, R_grove_of C_Grove ds x → Dm.St K M_grove_of (t_grove_of K C_Grove (spO K (R_Grove___init__ C_Grove))) (ds.map Slot.val ++ List.replicate (N_grove_of.length - ds.length) .no) (RetF x) := by
  rintro _ _ ⟨a0, a1, a2, a3, r, h, rfl, rfl⟩
  show Dm.St K _ _ [.val (D.int a0), .val (D.int a1), .val (D.lst (a2.map (fun z1 : (Str × Int × Int × Int × Str × Int) => D.tup [D.str z1.1, D.int z1.2.1, D.int z1.2.2.1, D.int z1.2.2.2.1, D.str z1.2.2.2.2.1, D.int z1.2.2.2.2.2]))), .val (D.tup (a3.map (fun z1 : (Str × Int × Int × Int) => D.tup [D.str z1.1, D.int z1.2.1, D.int z1.2.2.1, D.int z1.2.2.2]))), .no, .no, .no, .no, .no] _
  unfold F_grove_of at h
  obtain ⟨v1, hv1, h⟩ := Option.bind_eq_some_iff.mp h
  obtain ⟨v2, hv2, h⟩ := Option.bind_eq_some_iff.mp h
  obtain ⟨v3, hv3, h⟩ := Option.bind_eq_some_iff.mp h
  refine q (st_asgW (by decide) (by decide) (ew_is (ew_lst (ea_cons (ev_joinT ev_str (ev_fzT (ew_is (ew_lst (ea_cons ev_str (ea_cons (ev_cb (ea_cons (ev_var rfl) ea_nil) (ty_str hv1)) (ea_cons (ev_cb (ea_cons (ev_var rfl) ea_nil) (ty_str hv2)) ea_nil))) (Nat.le_of_ble_eq_true rfl)) (by rfl))) hv3) ea_nil) (Nat.le_of_ble_eq_true rfl)) (by rfl)) ?_)
  show Dm.St K _ _ [.val (D.int a0), .val (D.int a1), .val (D.lst (a2.map (fun z1 : (Str × Int × Int × Int × Str × Int) => D.tup [D.str z1.1, D.int z1.2.1, D.int z1.2.2.1, D.int z1.2.2.2.1, D.str z1.2.2.2.2.1, D.int z1.2.2.2.2.2]))), .val (D.tup (a3.map (fun z1 : (Str × Int × Int × Int) => D.tup [D.str z1.1, D.int z1.2.1, D.int z1.2.2.1, D.int z1.2.2.2]))), .own (odL D.str (([v3] : List Str))), .no, .no, .no, .no] _
  obtain ⟨s10, hs10, h⟩ := Option.bind_eq_some_iff.mp h
  refine q (st_forL (vs := List.range 60) (Mb := M_grove_of) (φ := (fun z3 : (Str × (Bool × List (List D))) => D.tup [D.str z3.1, sqD (fun z1 : List D => D.tup (z1.map (fun z0 : D => z0))) z3.2])) (J := fun s8 : (List Str) => [.val (D.int a0), .val (D.int a1), .val (D.lst (a2.map (fun z1 : (Str × Int × Int × Int × Str × Int) => D.tup [D.str z1.1, D.int z1.2.1, D.int z1.2.2.1, D.int z1.2.2.2.1, D.str z1.2.2.2.2.1, D.int z1.2.2.2.2.2]))), .val (D.tup (a3.map (fun z1 : (Str × Int × Int × Int) => D.tup [D.str z1.1, D.int z1.2.1, D.int z1.2.2.1, D.int z1.2.2.2]))), .own (odL D.str s8), .no, .no, .no, .no]) (it_anyT (ev_is (ev_tup (ea_cons (ev_tup (ea_cons ev_str (ea_cons (ev_is (ev_var rfl) (sq_mapL (φ := (fun z1 : (Str × Int × Int × Int × Str × Int) => D.tup [D.str z1.1, D.int z1.2.1, D.int z1.2.2.1, D.int z1.2.2.2.1, D.str z1.2.2.2.2.1, D.int z1.2.2.2.2.2])) (ψ := (fun z1 : List D => D.tup (z1.map (fun z0 : D => z0)))) (f := (fun y1 : (Str × Int × Int × Int × Str × Int) => ([D.str y1.1, D.int y1.2.1, D.int y1.2.2.1, D.int y1.2.2.2.1, D.str y1.2.2.2.2.1, D.int y1.2.2.2.2.2] : List D))) fun _ => rfl)) ea_nil)) (Nat.le_of_ble_eq_true rfl)) (ea_cons (ev_tup (ea_cons ev_str (ea_cons (ev_is (ev_var rfl) (sq_mapT (φ := (fun z1 : (Str × Int × Int × Int) => D.tup [D.str z1.1, D.int z1.2.1, D.int z1.2.2.1, D.int z1.2.2.2])) (ψ := (fun z1 : List D => D.tup (z1.map (fun z0 : D => z0)))) (f := (fun y1 : (Str × Int × Int × Int) => ([D.str y1.1, D.int y1.2.1, D.int y1.2.2.1, D.int y1.2.2.2] : List D))) fun _ => rfl)) ea_nil)) (Nat.le_of_ble_eq_true rfl)) ea_nil)) (Nat.le_of_ble_eq_true rfl)) (by rfl))) hs10 (fun _ z => z) (.same (.same (.same (.same (.same (.same (.same (.same (.same .nil))))))))) (fun _ _ _ _ => trivial) ?kb4 ?kn5)
  case kb4 =>
    intro x9 hx s8 s' hb
    refine ⟨_, (gd_tupU (gs_cons (gd_name (by decide)) (gs_cons (gd_name (by decide)) gs_nil)) rfl), ?_⟩
    obtain ⟨l18, hl18, hb⟩ := Option.bind_eq_some_iff.mp hb
    obtain ⟨l20, hl20, hb⟩ := Option.bind_eq_some_iff.mp hb
    refine st_extT (φ := D.str) (zs := l18) (M' := []) (pl_var rfl) (ev_fzT (ew_lcT (φ := (fun z1 : List D => D.tup (z1.map (fun z0 : D => z0)))) (ψ := D.str) (it_anyQ (φ := (fun z1 : List D => D.tup (z1.map (fun z0 : D => z0)))) (ev_var rfl)) hl18 (fun _ => trivial) rfl ?k19)) hl20 (by decide) (by decide) (by decide) rfl rfl rfl ?nx21
    case k19 =>
      intro x11 hx
      refine turn1 (e' := _) (gd_name (by decide)) ?_ ?_
      · intro b hb
        cases hb
        refine et_yes
      · intro y hc hb
        obtain ⟨l14, hl14, hb⟩ := Option.bind_eq_some_iff.mp hb
        obtain ⟨v16, hv16, hb⟩ := Option.bind_eq_some_iff.mp hb
        obtain ⟨v17, hv17, hb⟩ := Option.bind_eq_some_iff.mp hb
        cases hb
        refine (ev_joinT ev_str (ev_op (ev_fzT (ew_is (ew_lst (ea_cons (ev_var rfl) ea_nil) (Nat.le_of_ble_eq_true rfl)) (by rfl))) (ev_fzT (ew_lcT (φ := (fun z0 : D => z0)) (ψ := D.str) (it_anyT (ev_var rfl)) hl14 (fun _ => trivial) rfl ?k15)) (ty_addL (φ := D.str) hv16)) hv17)
        case k15 =>
          intro x12 hx
          refine turn1 (e' := _) (gd_name (by decide)) ?_ ?_
          · intro b hb
            cases hb
            refine et_yes
          · intro y hc hb
            obtain ⟨v13, hv13, hb⟩ := Option.bind_eq_some_iff.mp hb
            cases hb
            refine (ev_cb (ea_cons (ev_var rfl) ea_nil) (ty_strD hv13))
    case nx21 =>
      cases hb
      exact (.same (.same (.same (.same (.same (.drop (.drop (.same (.same .nil)))))))))
  case kn5 =>
    show Dm.St K _ _ [.val (D.int a0), .val (D.int a1), .val (D.lst (a2.map (fun z1 : (Str × Int × Int × Int × Str × Int) => D.tup [D.str z1.1, D.int z1.2.1, D.int z1.2.2.1, D.int z1.2.2.2.1, D.str z1.2.2.2.2.1, D.int z1.2.2.2.2.2]))), .val (D.tup (a3.map (fun z1 : (Str × Int × Int × Int) => D.tup [D.str z1.1, D.int z1.2.1, D.int z1.2.2.1, D.int z1.2.2.2]))), .own (odL D.str s10), .no, .no, .no, .no] _
    refine st_fz (i := 4) rfl fz_odL ?_
    show Dm.St K _ _ [.val (D.int a0), .val (D.int a1), .val (D.lst (a2.map (fun z1 : (Str × Int × Int × Int × Str × Int) => D.tup [D.str z1.1, D.int z1.2.1, D.int z1.2.2.1, D.int z1.2.2.2.1, D.str z1.2.2.2.2.1, D.int z1.2.2.2.2.2]))), .val (D.tup (a3.map (fun z1 : (Str × Int × Int × Int) => D.tup [D.str z1.1, D.int z1.2.1, D.int z1.2.2.1, D.int z1.2.2.2]))), .val (D.lst (s10.map D.str)), .no, .no, .no, .no] _
    obtain ⟨v22, hv22, h⟩ := Option.bind_eq_some_iff.mp h
    obtain ⟨p23, hp23, h⟩ := Option.bind_eq_some_iff.mp h
    cases h
    refine st_ret (ev_is (ev_fz (ew_make (ea_cons (ev_joinT ev_str (ev_var rfl) hv22) ea_nil) ⟨_, _, _, hp23, rfl, rfl, rfl, rfl⟩)) fz_O_Grove) rfl
def F_shifted_by (a0 : O_Grove) (a1 : List Int) : Option O_Grove :=
  (F_Grove_palms a0).bind fun v5 =>
  (forL (σ := (List ((Str × Int × Int × Int × Str × Int)))) (fun x7 s6 => (pySlS x7.1.2.2.2.2.1 (some x7.2) none).bind fun v9 =>
  (pySlS x7.1.2.2.2.2.1 none (some x7.2)).bind fun v10 =>
  (pyCatS v9 v10).bind fun v11 =>
  (pyApp s6 ((x7.1.1, x7.1.2.1, x7.1.2.2.1, x7.1.2.2.2.1, v11, x7.1.2.2.2.2.2))).bind fun l12 =>
  some l12) (v5.zip a1) (([] : List ((Str × Int × Int × Int × Str × Int))))).bind fun s8 =>
  (F_Grove_turns a0).bind fun v14 =>
  (F_Grove_hands a0).bind fun v15 =>
  (F_Grove_males a0).bind fun v16 =>
  (F_grove_of v14 v15 s8 v16).bind fun v17 =>
  some v17
def M_shifted_by : List Nat := [2]
def R_shifted_by (C_Grove : Addr) (ds : List D) (x : Res) : Prop := ∃ (a0 : O_Grove) (a1 : List Int) (r : O_Grove), F_shifted_by a0 a1 = some r ∧ ds = [dO_Grove C_Grove a0, D.tup (a1.map D.int)] ∧ x = .v (dO_Grove C_Grove r)
theorem len_shifted_by {C_Grove : Addr} : ∀ (vs : List V) (H : Hp) (Q : VK) (E : XK), spF K (R_shifted_by C_Grove) vs H Q E → vs.length = 2 := spF_len (by rintro _ _ ⟨_, _, _, _, rfl, _⟩; rfl)
theorem p_shifted_by {C_Grove : Addr} (k_Grove : CK_Grove K C_Grove) : ∀ ds x, R_shifted_by C_Grove ds x → Dm.St K M_shifted_by (t_shifted_by K C_Grove (spF K (R_Grove_palms C_Grove)) (spF K (R_grove_of C_Grove)) (spF K (R_Grove_males C_Grove)) (spF K (R_Grove_hands C_Grove)) (spF K (R_Grove_turns C_Grove))) (ds.map Slot.val ++ List.replicate (N_shifted_by.length - ds.length) .no) (RetF x) := by
  rintro _ _ ⟨a0, a1, r, h, rfl, rfl⟩
  show Dm.St K _ _ [.val (dO_Grove C_Grove a0), .val (D.tup (a1.map D.int)), .no, .no, .no, .no, .no, .no, .no, .no] _
  unfold F_shifted_by at h
  refine q (st_asgW (by decide) (by decide) (ew_is (ew_lst ea_nil (Nat.le_of_ble_eq_true rfl)) (by rfl)) ?_)
  show Dm.St K _ _ [.val (dO_Grove C_Grove a0), .val (D.tup (a1.map D.int)), .own (odL (fun z1 : (Str × Int × Int × Int × Str × Int) => D.tup [D.str z1.1, D.int z1.2.1, D.int z1.2.2.1, D.int z1.2.2.2.1, D.str z1.2.2.2.2.1, D.int z1.2.2.2.2.2]) (([] : List ((Str × Int × Int × Int × Str × Int))))), .no, .no, .no, .no, .no, .no, .no] _
  obtain ⟨v5, hv5, h⟩ := Option.bind_eq_some_iff.mp h
  obtain ⟨s8, hs8, h⟩ := Option.bind_eq_some_iff.mp h
  refine q (st_forL (vs := List.range 60) (Mb := M_shifted_by) (φ := (fun z2 : (((Str × Int × Int × Int × Str × Int)) × Int) => D.tup [D.tup [D.str z2.1.1, D.int z2.1.2.1, D.int z2.1.2.2.1, D.int z2.1.2.2.2.1, D.str z2.1.2.2.2.2.1, D.int z2.1.2.2.2.2.2], D.int z2.2])) (J := fun s6 : (List ((Str × Int × Int × Int × Str × Int))) => [.val (dO_Grove C_Grove a0), .val (D.tup (a1.map D.int)), .own (odL (fun z1 : (Str × Int × Int × Int × Str × Int) => D.tup [D.str z1.1, D.int z1.2.1, D.int z1.2.2.1, D.int z1.2.2.2.1, D.str z1.2.2.2.2.1, D.int z1.2.2.2.2.2]) s6), .no, .no, .no, .no, .no, .no, .no]) (it_zpT (φ := (fun z1 : (Str × Int × Int × Int × Str × Int) => D.tup [D.str z1.1, D.int z1.2.1, D.int z1.2.2.1, D.int z1.2.2.2.1, D.str z1.2.2.2.2.1, D.int z1.2.2.2.2.2])) (ψ := D.int) (ea_cons (ev_propF (ev_var rfl) ⟨_, _, hv5, rfl, rfl⟩) (ea_cons (ev_var rfl) ea_nil)) (.inr rfl) (.inr rfl)) hs8 (fun _ z => z) (.same (.same (.same (.same (.same (.same (.same (.same (.same (.same .nil)))))))))) (fun _ _ _ _ => trivial) ?kb1 ?kn2)
  case kb1 =>
    intro x7 hx s6 s' hb
    refine ⟨_, (gd_tupU (gs_cons (gd_tupU (gs_cons (gd_name (by decide)) (gs_cons (gd_name (by decide)) (gs_cons (gd_name (by decide)) (gs_cons (gd_name (by decide)) (gs_cons (gd_name (by decide)) (gs_cons (gd_name (by decide)) gs_nil)))))) rfl) (gs_cons (gd_name (by decide)) gs_nil)) rfl), ?_⟩
    obtain ⟨v9, hv9, hb⟩ := Option.bind_eq_some_iff.mp hb
    obtain ⟨v10, hv10, hb⟩ := Option.bind_eq_some_iff.mp hb
    obtain ⟨v11, hv11, hb⟩ := Option.bind_eq_some_iff.mp hb
    obtain ⟨l12, hl12, hb⟩ := Option.bind_eq_some_iff.mp hb
    refine st_appT (φ := (fun z1 : (Str × Int × Int × Int × Str × Int) => D.tup [D.str z1.1, D.int z1.2.1, D.int z1.2.2.1, D.int z1.2.2.2.1, D.str z1.2.2.2.2.1, D.int z1.2.2.2.2.2])) (x := (x7.1.1, x7.1.2.1, x7.1.2.2.1, x7.1.2.2.2.1, v11, x7.1.2.2.2.2.2)) (M' := []) (pl_var rfl) (ev_tup (ea_cons (ev_var rfl) (ea_cons (ev_var rfl) (ea_cons (ev_var rfl) (ea_cons (ev_var rfl) (ea_cons (ev_op (ev_slST (ev_var rfl) (eo_some (ev_var rfl)) eo_none hv9) (ev_slST (ev_var rfl) eo_none (eo_some (ev_var rfl)) hv10) (ty_addS hv11)) (ea_cons (ev_var rfl) ea_nil)))))) (Nat.le_of_ble_eq_true rfl)) hl12 (by decide) (by decide) (by decide) rfl rfl rfl ?_
    cases hb
    exact (.same (.same (.same (.drop (.drop (.drop (.drop (.drop (.drop (.drop .nil))))))))))
  case kn2 =>
    show Dm.St K _ _ [.val (dO_Grove C_Grove a0), .val (D.tup (a1.map D.int)), .own (odL (fun z1 : (Str × Int × Int × Int × Str × Int) => D.tup [D.str z1.1, D.int z1.2.1, D.int z1.2.2.1, D.int z1.2.2.2.1, D.str z1.2.2.2.2.1, D.int z1.2.2.2.2.2]) s8), .no, .no, .no, .no, .no, .no, .no] _
    refine st_fz (i := 2) rfl fz_odL ?_
    show Dm.St K _ _ [.val (dO_Grove C_Grove a0), .val (D.tup (a1.map D.int)), .val (D.lst (s8.map (fun z1 : (Str × Int × Int × Int × Str × Int) => D.tup [D.str z1.1, D.int z1.2.1, D.int z1.2.2.1, D.int z1.2.2.2.1, D.str z1.2.2.2.2.1, D.int z1.2.2.2.2.2]))), .no, .no, .no, .no, .no, .no, .no] _
    obtain ⟨v14, hv14, h⟩ := Option.bind_eq_some_iff.mp h
    obtain ⟨v15, hv15, h⟩ := Option.bind_eq_some_iff.mp h
    obtain ⟨v16, hv16, h⟩ := Option.bind_eq_some_iff.mp h
    obtain ⟨v17, hv17, h⟩ := Option.bind_eq_some_iff.mp h
    cases h
    refine st_ret (ev_callF (ea_cons (ev_propF (ev_var rfl) ⟨_, _, hv14, rfl, rfl⟩) (ea_cons (ev_propF (ev_var rfl) ⟨_, _, hv15, rfl, rfl⟩) (ea_cons (ev_var rfl) (ea_cons (ev_propF (ev_var rfl) ⟨_, _, hv16, rfl, rfl⟩) ea_nil)))) ⟨_, _, _, _, _, hv17, rfl, rfl⟩) rfl
def F_shifted (a0 : O_Grove) (a1 : List Int) : Option O_Grove :=
  (F_check_grove a0).bind fun v1 =>
  (F_are_shifts a0 a1).bind fun v5 =>
  if (!v5) = true then none else
  (F_shifted_by a0 a1).bind fun v6 =>
  some v6
def M_shifted : List Nat := []
def R_shifted (C_Grove : Addr) (ds : List D) (x : Res) : Prop := ∃ (a0 : O_Grove) (a1 : List Int) (r : O_Grove), F_shifted a0 a1 = some r ∧ ds = [dO_Grove C_Grove a0, D.tup (a1.map D.int)] ∧ x = .v (dO_Grove C_Grove r)
theorem len_shifted {C_Grove : Addr} : ∀ (vs : List V) (H : Hp) (Q : VK) (E : XK), spF K (R_shifted C_Grove) vs H Q E → vs.length = 2 := spF_len (by rintro _ _ ⟨_, _, _, _, rfl, _⟩; rfl)
theorem p_shifted {C_Grove : Addr} : ∀ ds x, R_shifted C_Grove ds x → Dm.St K M_shifted (t_shifted K (spF K (R_check_grove C_Grove)) (spF K (R_are_shifts C_Grove)) (spF K (R_shifted_by C_Grove))) (ds.map Slot.val ++ List.replicate (N_shifted.length - ds.length) .no) (RetF x) := by
  rintro _ _ ⟨a0, a1, r, h, rfl, rfl⟩
  show Dm.St K _ _ [.val (dO_Grove C_Grove a0), .val (D.tup (a1.map D.int))] _
  unfold F_shifted at h
  obtain ⟨v1, hv1, h⟩ := Option.bind_eq_some_iff.mp h
  refine q (st_drop (ev_callF (ea_cons (ev_var rfl) ea_nil) ⟨_, _, hv1, rfl, rfl⟩) ?_)
  show Dm.St K _ _ [.val (dO_Grove C_Grove a0), .val (D.tup (a1.map D.int))] _
  obtain ⟨v5, hv5, h⟩ := Option.bind_eq_some_iff.mp h
  refine q_if (et_not (et_B (ev_callF (ea_cons (ev_var rfl) (ea_cons (ev_var rfl) ea_nil)) ⟨_, _, _, hv5, rfl, rfl⟩))) (fun hc => ?kt2) (fun hc => ?kf3)
  case kt2 =>
    rw [if_pos hc] at h
    cases h
  case kf3 =>
    rw [if_neg (by rw [hc]; exact Bool.false_ne_true)] at h
    refine st_next ?_
    show Dm.St K _ _ [.val (dO_Grove C_Grove a0), .val (D.tup (a1.map D.int))] _
    obtain ⟨v6, hv6, h⟩ := Option.bind_eq_some_iff.mp h
    cases h
    refine st_ret (ev_callF (ea_cons (ev_var rfl) (ea_cons (ev_var rfl) ea_nil)) ⟨_, _, _, hv6, rfl, rfl⟩) rfl
def F__law_right (a0 : List Int) : Option ((Bool × (List Int))) :=
  (F__law_take a0 ((4 : Int))).bind fun p1 =>
  (F__law_take p1.2 ((3 : Int))).bind fun p2 =>
  (F__law_take p2.2 (((((1 : Int) + p1.1), ((1 : Int) + p2.1))).1)).bind fun p3 =>
  (pyRng (((((1 : Int) + p1.1), ((1 : Int) + p2.1))).2)).bind fun l4 =>
  (lcM (fun x5 => some true) (fun x5 => (pyStr x5).bind fun v6 =>
  (pyCatS (("p" : Str)) v6).bind fun v7 =>
  some v7) l4).bind fun l8 =>
  (pyRepS (("0" : Str)) p3.1).bind fun v10 =>
  (pyRepS (("1" : Str)) ((((((1 : Int) + p1.1), ((1 : Int) + p2.1))).1 - p3.1))).bind fun v11 =>
  (pyCatS v10 v11).bind fun v12 =>
  (lcM (fun x13 => some true) (fun x13 => (pyCatS (("palm " : Str)) x13).bind fun v14 =>
  (pyCatS v14 ((" 9 0 0 " : Str))).bind fun v15 =>
  (pyCatS v15 v12).bind fun v16 =>
  (pyCatS v16 ((" 1" : Str))).bind fun v17 =>
  some v17) l8).bind fun l18 =>
  (pyCat (([("grove 1 1" : Str)] : List Str)) l18).bind fun v20 =>
  (pyJoin (("\n" : Str)) v20).bind fun v21 =>
  (F_Grove___init__ v21).bind fun p22 =>
  (lcS (σ := (List Int)) (fun x25 s26 => (F__law_take s26 (((((1 : Int) + p1.1), ((1 : Int) + p2.1))).1)).bind fun p27 =>
  some (some p27.1, (p27.2))) l8 (p3.2)).bind fun p28 =>
  (lcM (fun x30 => some true) (fun x30 => (pyMod ((((((1 : Int) + p1.1), ((1 : Int) + p2.1))).1 - x30)) (((((1 : Int) + p1.1), ((1 : Int) + p2.1))).1)).bind fun v31 =>
  some v31) ((srt p28.1))).bind fun l32 =>
  (F_shifted p22.2 l32).bind fun v34 =>
  (pyRng ((8 : Int))).bind fun l39 =>
  (forC (ρ := Bool × (List Int)) (σ := (List Int)) (fun x41 s40 => (F__law_take s40 ((9999 : Int))).bind fun p43 =>
  (F_bearing ((p3.1, ((((1 : Int) + p1.1), ((1 : Int) + p2.1))).1)) ((srt p28.1)) p43.1).bind fun v47 =>
  (F_baskets v34 p43.1).bind fun v48 =>
  if (decide (v47 ≠ v48)) = true then some (.rt ((false, p43.2))) else some (.nx p43.2)) l39 p28.2).bind fun c110 =>
  match c110 with
  | .nx s42 => (F_least_baskets v34).bind fun v50 =>
  (F_most_baskets v34).bind fun v51 =>
  (F_least_bearing ((p3.1, ((((1 : Int) + p1.1), ((1 : Int) + p2.1))).1)) ((srt p28.1))).bind fun v55 =>
  (pyEq (D.tup [D.int v55.1, D.int v55.2]) (D.tup [D.int v50.1, D.int v50.2])).bind fun v56 =>
  (if (!v56) = true then some true else (F_most_bearing ((p3.1, ((((1 : Int) + p1.1), ((1 : Int) + p2.1))).1)) ((srt p28.1))).bind fun v57 =>
  (pyEq (D.tup [D.int v57.1, D.int v57.2]) (D.tup [D.int v51.1, D.int v51.2])).bind fun v58 =>
  some ((!v58))).bind fun v59 =>
  if v59 = true then some ((false, s42)) else
  (F_mean_baskets v34).bind fun v61 =>
  (pyMul v61.1 (((((1 : Int) + p1.1), ((1 : Int) + p2.1))).1)).bind fun v65 =>
  (pyMul v61.2 (((((1 : Int) + p1.1), ((1 : Int) + p2.1))).2)).bind fun v66 =>
  (pyMul v66 ((((((1 : Int) + p1.1), ((1 : Int) + p2.1))).1 - p3.1))).bind fun v67 =>
  if (decide (v65 ≠ v67)) = true then some ((false, s42)) else
  (F_best_plants ((p3.1, ((((1 : Int) + p1.1), ((1 : Int) + p2.1))).1)) (((((1 : Int) + p1.1), ((1 : Int) + p2.1))).2)).bind fun v68 =>
  (pyMul (((((1 : Int) + p1.1), ((1 : Int) + p2.1))).2) ((((((1 : Int) + p1.1), ((1 : Int) + p2.1))).1 - p3.1))).bind fun v72 =>
  (pyDiv v72 (((((1 : Int) + p1.1), ((1 : Int) + p2.1))).1)).bind fun v73 =>
  if ((decide (v68.1 ≠ v73)) || (decide (v68.1 < v50.1))) = true then some ((false, s42)) else
  (F_evenest p22.2).bind fun v77 =>
  if (decide (v77.1 ≠ v68.1)) = true then some ((false, s42)) else
  (if (decide ((0 : Int) < v68.1)) = true then (F_enough_plants ((p3.1, ((((1 : Int) + p1.1), ((1 : Int) + p2.1))).1)) v68.1).bind fun v81 =>
  some ((decide (((((1 : Int) + p1.1), ((1 : Int) + p2.1))).2 < v81.1))) else some false).bind fun v82 =>
  if v82 = true then some ((false, s42)) else
  (F_all_bear v34).bind fun v84 =>
  (pyIxD v84 ((0 : Int))).bind fun v88 =>
  (pyEq v88 (D.str (("year" : Str)))).bind fun v89 =>
  if (decide (v89 ≠ (decide (v51.1 = ((((1 : Int) + p1.1), ((1 : Int) + p2.1))).2)))) = true then some ((false, s42)) else
  (pyIxD v84 ((0 : Int))).bind fun v93 =>
  (pyEq v93 (D.str (("year" : Str)))).bind fun v94 =>
  (if v94 = true then (pyIxD v84 ((1 : Int))).bind fun v95 =>
  (pyAsI v95).bind fun v96 =>
  (F_baskets v34 v96).bind fun v97 =>
  some ((decide (v97 ≠ ((((1 : Int) + p1.1), ((1 : Int) + p2.1))).2))) else some false).bind fun v98 =>
  if v98 = true then some ((false, s42)) else
  (F_how_many_with v34 (((((1 : Int) + p1.1), ((1 : Int) + p2.1))).2)).bind fun v100 =>
  (pyIxD v84 ((0 : Int))).bind fun v101 =>
  (pyEq v101 (D.str (("year" : Str)))).bind fun v102 =>
  (if (decide ((decide ((0 : Int) < v100)) = v102)) = true then (F_how_many_with v34 v50.1).bind fun v103 =>
  some ((decide (v103 = (60 : Int)))) else some false).bind fun v104 =>
  some ((v104, s42))
  | .bk _ => none
  | .rt r => some r
def M__law_right : List Nat := [0]
def R__law_right (o : OD) (ds : List D) (x : Res) (o' : OD) : Prop := ∃ (a0 : List Int) (r : Bool) (s : List Int), F__law_right a0 = some (r, s) ∧ o = odL D.int a0 ∧ ds = [] ∧ x = .v (D.bl r) ∧ o' = odL D.int s
theorem len__law_right : ∀ (vs : List V) (H : Hp) (Q : VK) (E : XK), spO K R__law_right vs H Q E → vs.length = 1 := spO_len (by rintro _ _ _ _ ⟨_, _, _, _, rfl, rfl, _⟩; rfl)
theorem p__law_right {C_Grove : Addr} : ∀ o ds x o', R__law_right o ds x o' → Dm.St K M__law_right (t__law_right K C_Grove (spO K R__law_take) (spO K (R_Grove___init__ C_Grove)) (spF K (R_shifted C_Grove)) (spF K R_bearing) (spF K (R_baskets C_Grove)) (spF K (R_most_baskets C_Grove)) (spF K (R_least_baskets C_Grove)) (spF K R_least_bearing) (spF K R_most_bearing) (spF K (R_mean_baskets C_Grove)) (spF K R_best_plants) (spF K (R_evenest C_Grove)) (spF K R_enough_plants) (spF K (R_all_bear C_Grove)) (spF K (R_how_many_with C_Grove))) (.own o :: (ds.map Slot.val ++ List.replicate (N__law_right.length - (ds.length + 1)) .no)) (RetO x o') := by
  rintro _ _ _ _ ⟨a0, r, s, h, rfl, rfl, rfl, rfl⟩
  show Dm.St K _ _ [.own (odL D.int a0), .no, .no, .no, .no, .no, .no, .no, .no, .no, .no, .no, .no, .no, .no, .no, .no, .no, .no, .no, .no, .no] _
  unfold F__law_right at h
  obtain ⟨p1, hp1, h⟩ := Option.bind_eq_some_iff.mp h
  obtain ⟨p2, hp2, h⟩ := Option.bind_eq_some_iff.mp h
  refine q (st_asgG (vs := List.range 60) (ev_tup (ea_cons (ev_op ev_int (ev_callO (M' := []) (pl_var rfl) (ea_cons ev_int ea_nil) (by decide) (by decide) (by decide) rfl rfl rfl ⟨_, _, _, _, hp1, rfl, rfl, rfl, rfl⟩) d_add) (ea_cons (ev_op ev_int (ev_callO (M' := []) (pl_var rfl) (ea_cons ev_int ea_nil) (by decide) (by decide) (by decide) rfl rfl rfl ⟨_, _, _, _, hp2, rfl, rfl, rfl, rfl⟩) d_add) ea_nil)) (Nat.le_of_ble_eq_true rfl)) (gd_tupU (gs_cons (gd_name (by decide)) (gs_cons (gd_name (by decide)) gs_nil)) rfl) ?_)
  show Dm.St K _ _ [.own (odL D.int p2.2), .val (D.int (((((1 : Int) + p1.1), ((1 : Int) + p2.1))).1)), .val (D.int (((((1 : Int) + p1.1), ((1 : Int) + p2.1))).2)), .no, .no, .no, .no, .no, .no, .no, .no, .no, .no, .no, .no, .no, .no, .no, .no, .no, .no, .no] _
  obtain ⟨p3, hp3, h⟩ := Option.bind_eq_some_iff.mp h
  refine q (st_asg (ev_cb (ea_cons (ev_callO (M' := []) (pl_var rfl) (ea_cons (ev_var rfl) ea_nil) (by decide) (by decide) (by decide) rfl rfl rfl ⟨_, _, _, _, hp3, rfl, rfl, rfl, rfl⟩) ea_nil) d_int) ?_)
  show Dm.St K _ _ [.own (odL D.int p3.2), .val (D.int (((((1 : Int) + p1.1), ((1 : Int) + p2.1))).1)), .val (D.int (((((1 : Int) + p1.1), ((1 : Int) + p2.1))).2)), .val (D.int p3.1), .no, .no, .no, .no, .no, .no, .no, .no, .no, .no, .no, .no, .no, .no, .no, .no, .no, .no] _
  obtain ⟨l4, hl4, h⟩ := Option.bind_eq_some_iff.mp h
  obtain ⟨l8, hl8, h⟩ := Option.bind_eq_some_iff.mp h
  refine q (st_par (ea_cons (ev_tup (ea_cons (ev_var rfl) (ea_cons (ev_var rfl) ea_nil)) (Nat.le_of_ble_eq_true rfl)) (ea_cons (ev_fzT (ew_lcT (φ := D.int) (ψ := D.str) (it_rng (ea_cons (ev_var rfl) ea_nil) hl4) hl8 (fun _ => trivial) rfl ?k9)) ea_nil)) ?nx116)
  case k9 =>
    intro x5 hx
    refine turn1 (e' := _) (gd_name (by decide)) ?_ ?_
    · intro b hb
      cases hb
      refine et_yes
    · intro y hc hb
      obtain ⟨v6, hv6, hb⟩ := Option.bind_eq_some_iff.mp hb
      obtain ⟨v7, hv7, hb⟩ := Option.bind_eq_some_iff.mp hb
      cases hb
      refine (ev_op ev_str (ev_cb (ea_cons (ev_var rfl) ea_nil) (ty_str hv6)) (ty_addS hv7))
  case nx116 =>
    show Dm.St K _ _ [.own (odL D.int p3.2), .val (D.int (((((1 : Int) + p1.1), ((1 : Int) + p2.1))).1)), .val (D.int (((((1 : Int) + p1.1), ((1 : Int) + p2.1))).2)), .val (D.int p3.1), .val (D.tup [D.int (((p3.1, ((((1 : Int) + p1.1), ((1 : Int) + p2.1))).1)).1), D.int (((p3.1, ((((1 : Int) + p1.1), ((1 : Int) + p2.1))).1)).2)]), .val (D.lst (l8.map D.str)), .no, .no, .no, .no, .no, .no, .no, .no, .no, .no, .no, .no, .no, .no, .no, .no] _
    obtain ⟨v10, hv10, h⟩ := Option.bind_eq_some_iff.mp h
    obtain ⟨v11, hv11, h⟩ := Option.bind_eq_some_iff.mp h
    obtain ⟨v12, hv12, h⟩ := Option.bind_eq_some_iff.mp h
    refine q (st_asg (ev_op (ev_op ev_str (ev_var rfl) (ty_repS hv10)) (ev_op ev_str (ev_op (ev_var rfl) (ev_var rfl) d_sub) (ty_repS hv11)) (ty_addS hv12)) ?_)
    show Dm.St K _ _ [.own (odL D.int p3.2), .val (D.int (((((1 : Int) + p1.1), ((1 : Int) + p2.1))).1)), .val (D.int (((((1 : Int) + p1.1), ((1 : Int) + p2.1))).2)), .val (D.int p3.1), .val (D.tup [D.int (((p3.1, ((((1 : Int) + p1.1), ((1 : Int) + p2.1))).1)).1), D.int (((p3.1, ((((1 : Int) + p1.1), ((1 : Int) + p2.1))).1)).2)]), .val (D.lst (l8.map D.str)), .val (D.str v12), .no, .no, .no, .no, .no, .no, .no, .no, .no, .no, .no, .no, .no, .no, .no] _
    obtain ⟨l18, hl18, h⟩ := Option.bind_eq_some_iff.mp h
    refine q (st_asg (ev_fzT (ew_lcT (φ := D.str) (ψ := D.str) (it_anyL (ev_var rfl)) hl18 (fun _ => trivial) rfl ?k19)) ?nx114)
    case k19 =>
      intro x13 hx
      refine turn1 (e' := _) (gd_name (by decide)) ?_ ?_
      · intro b hb
        cases hb
        refine et_yes
      · intro y hc hb
        obtain ⟨v14, hv14, hb⟩ := Option.bind_eq_some_iff.mp hb
        obtain ⟨v15, hv15, hb⟩ := Option.bind_eq_some_iff.mp hb
        obtain ⟨v16, hv16, hb⟩ := Option.bind_eq_some_iff.mp hb
        obtain ⟨v17, hv17, hb⟩ := Option.bind_eq_some_iff.mp hb
        cases hb
        refine (ev_op (ev_op (ev_op (ev_op ev_str (ev_var rfl) (ty_addS hv14)) ev_str (ty_addS hv15)) (ev_var rfl) (ty_addS hv16)) ev_str (ty_addS hv17))
    case nx114 =>
      show Dm.St K _ _ [.own (odL D.int p3.2), .val (D.int (((((1 : Int) + p1.1), ((1 : Int) + p2.1))).1)), .val (D.int (((((1 : Int) + p1.1), ((1 : Int) + p2.1))).2)), .val (D.int p3.1), .val (D.tup [D.int (((p3.1, ((((1 : Int) + p1.1), ((1 : Int) + p2.1))).1)).1), D.int (((p3.1, ((((1 : Int) + p1.1), ((1 : Int) + p2.1))).1)).2)]), .val (D.lst (l8.map D.str)), .val (D.str v12), .val (D.lst (l18.map D.str)), .no, .no, .no, .no, .no, .no, .no, .no, .no, .no, .no, .no, .no, .no] _
      obtain ⟨v20, hv20, h⟩ := Option.bind_eq_some_iff.mp h
      obtain ⟨v21, hv21, h⟩ := Option.bind_eq_some_iff.mp h
      obtain ⟨p22, hp22, h⟩ := Option.bind_eq_some_iff.mp h
      refine q (st_asg (ev_is (ev_fz (ew_make (ea_cons (ev_joinT ev_str (ev_op (ev_fzT (ew_is (ew_lst (ea_cons ev_str ea_nil) (Nat.le_of_ble_eq_true rfl)) (by rfl))) (ev_var rfl) (ty_addL (φ := D.str) hv20)) hv21) ea_nil) ⟨_, _, _, hp22, rfl, rfl, rfl, rfl⟩)) fz_O_Grove) ?_)
      show Dm.St K _ _ [.own (odL D.int p3.2), .val (D.int (((((1 : Int) + p1.1), ((1 : Int) + p2.1))).1)), .val (D.int (((((1 : Int) + p1.1), ((1 : Int) + p2.1))).2)), .val (D.int p3.1), .val (D.tup [D.int (((p3.1, ((((1 : Int) + p1.1), ((1 : Int) + p2.1))).1)).1), D.int (((p3.1, ((((1 : Int) + p1.1), ((1 : Int) + p2.1))).1)).2)]), .val (D.lst (l8.map D.str)), .val (D.str v12), .val (D.lst (l18.map D.str)), .val (dO_Grove C_Grove p22.2), .no, .no, .no, .no, .no, .no, .no, .no, .no, .no, .no, .no, .no] _
      obtain ⟨p28, hp28, h⟩ := Option.bind_eq_some_iff.mp h
      refine q (st_asg (ev_cb (ea_cons (ev_cb (ea_cons (ev_fzT (ew_lcST (φ := D.str) (ψ := D.int) (J := fun s26 : (List Int) => [.own (odL D.int s26), .val (D.int (((((1 : Int) + p1.1), ((1 : Int) + p2.1))).1)), .val (D.int (((((1 : Int) + p1.1), ((1 : Int) + p2.1))).2)), .val (D.int p3.1), .val (D.tup [D.int (((p3.1, ((((1 : Int) + p1.1), ((1 : Int) + p2.1))).1)).1), D.int (((p3.1, ((((1 : Int) + p1.1), ((1 : Int) + p2.1))).1)).2)]), .val (D.lst (l8.map D.str)), .val (D.str v12), .val (D.lst (l18.map D.str)), .val (dO_Grove C_Grove p22.2), .no, .no, .no, .no, .no, .no, .no, .no, .no, .no, .no, .no, .no]) (M' := [0]) (it_anyL (ev_var rfl)) hp28 (by decide) rfl (fun _ _ _ _ => trivial) (jv_of (by intro s s'; rfl)) (fun _ _ => rfl) ?k29)) ea_nil) d_sorted) ea_nil) d_tupL) ?nx112)
      case k29 =>
        intro x25 hx s26 p hp
        obtain ⟨p27, hp27, hp⟩ := Option.bind_eq_some_iff.mp hp
        cases hp
        refine ⟨_, (gd_name (by decide)), true, _, et_yes, (fun z => nomatch z), fun _ => ⟨_, _, (ev_cb (ea_cons (ev_callO (M' := []) (pl_var rfl) (ea_cons (ev_var rfl) ea_nil) (by decide) (by decide) (by decide) rfl rfl rfl ⟨_, _, _, _, hp27, rfl, rfl, rfl, rfl⟩) ea_nil) d_int), rfl, ?_⟩⟩
        exact out_wp (by rfl) (by rfl)
      case nx112 =>
        show Dm.St K _ _ [.own (odL D.int p28.2), .val (D.int (((((1 : Int) + p1.1), ((1 : Int) + p2.1))).1)), .val (D.int (((((1 : Int) + p1.1), ((1 : Int) + p2.1))).2)), .val (D.int p3.1), .val (D.tup [D.int (((p3.1, ((((1 : Int) + p1.1), ((1 : Int) + p2.1))).1)).1), D.int (((p3.1, ((((1 : Int) + p1.1), ((1 : Int) + p2.1))).1)).2)]), .val (D.lst (l8.map D.str)), .val (D.str v12), .val (D.lst (l18.map D.str)), .val (dO_Grove C_Grove p22.2), .val (D.tup (((srt p28.1)).map D.int)), .no, .no, .no, .no, .no, .no, .no, .no, .no, .no, .no, .no] _
        obtain ⟨l32, hl32, h⟩ := Option.bind_eq_some_iff.mp h
        obtain ⟨v34, hv34, h⟩ := Option.bind_eq_some_iff.mp h
        refine q (st_asg (ev_callF (ea_cons (ev_var rfl) (ea_cons (ev_cb (ea_cons (ev_fzT (ew_lcT (φ := D.int) (ψ := D.int) (it_anyT (ev_var rfl)) hl32 (fun _ => trivial) rfl ?k33)) ea_nil) d_tupL) ea_nil)) ⟨_, _, _, hv34, rfl, rfl⟩) ?nx111)
        case k33 =>
          intro x30 hx
          refine turn1 (e' := _) (gd_name (by decide)) ?_ ?_
          · intro b hb
            cases hb
            refine et_yes
          · intro y hc hb
            obtain ⟨v31, hv31, hb⟩ := Option.bind_eq_some_iff.mp hb
            cases hb
            refine (ev_cb (ea_cons (ev_op (ev_op (ev_var rfl) (ev_var rfl) d_sub) (ev_var rfl) (ty_mod hv31)) ea_nil) d_int)
        case nx111 =>
          show Dm.St K _ _ [.own (odL D.int p28.2), .val (D.int (((((1 : Int) + p1.1), ((1 : Int) + p2.1))).1)), .val (D.int (((((1 : Int) + p1.1), ((1 : Int) + p2.1))).2)), .val (D.int p3.1), .val (D.tup [D.int (((p3.1, ((((1 : Int) + p1.1), ((1 : Int) + p2.1))).1)).1), D.int (((p3.1, ((((1 : Int) + p1.1), ((1 : Int) + p2.1))).1)).2)]), .val (D.lst (l8.map D.str)), .val (D.str v12), .val (D.lst (l18.map D.str)), .val (dO_Grove C_Grove p22.2), .val (D.tup (((srt p28.1)).map D.int)), .val (dO_Grove C_Grove v34), .no, .no, .no, .no, .no, .no, .no, .no, .no, .no, .no] _
          obtain ⟨l39, hl39, h⟩ := Option.bind_eq_some_iff.mp h
          obtain ⟨c110, hc110, h⟩ := Option.bind_eq_some_iff.mp h
          refine q (st_forC (vs := List.range 60) (Mb := M__law_right) (φ := D.int) (J := fun s40 : (List Int) => [.own (odL D.int s40), .val (D.int (((((1 : Int) + p1.1), ((1 : Int) + p2.1))).1)), .val (D.int (((((1 : Int) + p1.1), ((1 : Int) + p2.1))).2)), .val (D.int p3.1), .val (D.tup [D.int (((p3.1, ((((1 : Int) + p1.1), ((1 : Int) + p2.1))).1)).1), D.int (((p3.1, ((((1 : Int) + p1.1), ((1 : Int) + p2.1))).1)).2)]), .val (D.lst (l8.map D.str)), .val (D.str v12), .val (D.lst (l18.map D.str)), .val (dO_Grove C_Grove p22.2), .val (D.tup (((srt p28.1)).map D.int)), .val (dO_Grove C_Grove v34), .no, .no, .no, .no, .no, .no, .no, .no, .no, .no, .no]) (PR := fun z y e => y = .v (D.bl z.1) ∧ e[0]? = some (Slot.own (odL D.int z.2))) (it_rng (ea_cons ev_int ea_nil) hl39) hc110 (fun _ z => z) (.same (.same (.same (.same (.same (.same (.same (.same (.same (.same (.same (.same (.same (.same (.same (.same (.same (.same (.same (.same (.same (.same .nil)))))))))))))))))))))) (fun _ _ _ _ => trivial) ?kb35 (fun s42 hs => ?kn36) (fun r d e hr hp => ?kr38))
          case kb35 =>
            intro x41 hx s40 c hb
            refine ⟨_, (gd_name (by decide)), ?_⟩
            obtain ⟨p43, hp43, hb⟩ := Option.bind_eq_some_iff.mp hb
            refine q (st_asg (ev_cb (ea_cons (ev_callO (M' := []) (pl_var rfl) (ea_cons ev_int ea_nil) (by decide) (by decide) (by decide) rfl rfl rfl ⟨_, _, _, _, hp43, rfl, rfl, rfl, rfl⟩) ea_nil) d_int) ?_)
            show Dm.St K _ _ [.own (odL D.int p43.2), .val (D.int (((((1 : Int) + p1.1), ((1 : Int) + p2.1))).1)), .val (D.int (((((1 : Int) + p1.1), ((1 : Int) + p2.1))).2)), .val (D.int p3.1), .val (D.tup [D.int (((p3.1, ((((1 : Int) + p1.1), ((1 : Int) + p2.1))).1)).1), D.int (((p3.1, ((((1 : Int) + p1.1), ((1 : Int) + p2.1))).1)).2)]), .val (D.lst (l8.map D.str)), .val (D.str v12), .val (D.lst (l18.map D.str)), .val (dO_Grove C_Grove p22.2), .val (D.tup (((srt p28.1)).map D.int)), .val (dO_Grove C_Grove v34), .val (D.int x41), .val (D.int p43.1), .no, .no, .no, .no, .no, .no, .no, .no, .no] _
            obtain ⟨v47, hv47, hb⟩ := Option.bind_eq_some_iff.mp hb
            obtain ⟨v48, hv48, hb⟩ := Option.bind_eq_some_iff.mp hb
            refine st_if (et_test (ev_op (ev_callF (ea_cons (ev_var rfl) (ea_cons (ev_var rfl) (ea_cons (ev_var rfl) ea_nil))) ⟨_, _, _, _, hv47, rfl, rfl⟩) (ev_callF (ea_cons (ev_var rfl) (ea_cons (ev_var rfl) ea_nil)) ⟨_, _, _, hv48, rfl, rfl⟩) d_neI)) (fun hc => ?kt44) (fun hc => ?kf45)
            case kt44 =>
              rw [if_pos hc] at hb
              cases hb
              refine st_ret ev_bl ⟨rfl, rfl⟩
            case kf45 =>
              rw [if_neg (by rw [hc]; exact Bool.false_ne_true)] at hb
              refine st_next ?_
              cases hb
              exact (.same (.same (.same (.same (.same (.same (.same (.same (.same (.same (.same (.drop (.drop (.same (.same (.same (.same (.same (.same (.same (.same (.same .nil))))))))))))))))))))))
          case kn36 =>
            subst hs
            show Dm.St K _ _ [.own (odL D.int s42), .val (D.int (((((1 : Int) + p1.1), ((1 : Int) + p2.1))).1)), .val (D.int (((((1 : Int) + p1.1), ((1 : Int) + p2.1))).2)), .val (D.int p3.1), .val (D.tup [D.int (((p3.1, ((((1 : Int) + p1.1), ((1 : Int) + p2.1))).1)).1), D.int (((p3.1, ((((1 : Int) + p1.1), ((1 : Int) + p2.1))).1)).2)]), .val (D.lst (l8.map D.str)), .val (D.str v12), .val (D.lst (l18.map D.str)), .val (dO_Grove C_Grove p22.2), .val (D.tup (((srt p28.1)).map D.int)), .val (dO_Grove C_Grove v34), .no, .no, .no, .no, .no, .no, .no, .no, .no, .no, .no] _
            obtain ⟨v50, hv50, h⟩ := Option.bind_eq_some_iff.mp h
            obtain ⟨v51, hv51, h⟩ := Option.bind_eq_some_iff.mp h
            refine q (st_par (ea_cons (ev_callF (ea_cons (ev_var rfl) ea_nil) ⟨_, _, hv50, rfl, rfl⟩) (ea_cons (ev_callF (ea_cons (ev_var rfl) ea_nil) ⟨_, _, hv51, rfl, rfl⟩) ea_nil)) ?_)
            show Dm.St K _ _ [.own (odL D.int s42), .val (D.int (((((1 : Int) + p1.1), ((1 : Int) + p2.1))).1)), .val (D.int (((((1 : Int) + p1.1), ((1 : Int) + p2.1))).2)), .val (D.int p3.1), .val (D.tup [D.int (((p3.1, ((((1 : Int) + p1.1), ((1 : Int) + p2.1))).1)).1), D.int (((p3.1, ((((1 : Int) + p1.1), ((1 : Int) + p2.1))).1)).2)]), .val (D.lst (l8.map D.str)), .val (D.str v12), .val (D.lst (l18.map D.str)), .val (dO_Grove C_Grove p22.2), .val (D.tup (((srt p28.1)).map D.int)), .val (dO_Grove C_Grove v34), .no, .no, .val (D.tup [D.int v50.1, D.int v50.2]), .val (D.tup [D.int v51.1, D.int v51.2]), .no, .no, .no, .no, .no, .no, .no] _
            obtain ⟨v55, hv55, h⟩ := Option.bind_eq_some_iff.mp h
            obtain ⟨v56, hv56, h⟩ := Option.bind_eq_some_iff.mp h
            obtain ⟨v59, hv59, h⟩ := Option.bind_eq_some_iff.mp h
            refine q_if (et_orO (et_test (ev_op (ev_callF (ea_cons (ev_var rfl) (ea_cons (ev_var rfl) ea_nil)) ⟨_, _, _, hv55, rfl, rfl⟩) (ev_var rfl) (ty_ne hv56))) hv59 ?k60) (fun hc => ?kt52) (fun hc => ?kf53)
            case k60 =>
              intro hc hb
              obtain ⟨v57, hv57, hb⟩ := Option.bind_eq_some_iff.mp hb
              obtain ⟨v58, hv58, hb⟩ := Option.bind_eq_some_iff.mp hb
              cases hb
              refine (et_test (ev_op (ev_callF (ea_cons (ev_var rfl) (ea_cons (ev_var rfl) ea_nil)) ⟨_, _, _, hv57, rfl, rfl⟩) (ev_var rfl) (ty_ne hv58)))
            case kt52 =>
              rw [if_pos hc] at h
              cases h
              refine st_ret ev_bl ⟨rfl, rfl⟩
            case kf53 =>
              rw [if_neg (by rw [hc]; exact Bool.false_ne_true)] at h
              refine st_next ?_
              show Dm.St K _ _ [.own (odL D.int s42), .val (D.int (((((1 : Int) + p1.1), ((1 : Int) + p2.1))).1)), .val (D.int (((((1 : Int) + p1.1), ((1 : Int) + p2.1))).2)), .val (D.int p3.1), .val (D.tup [D.int (((p3.1, ((((1 : Int) + p1.1), ((1 : Int) + p2.1))).1)).1), D.int (((p3.1, ((((1 : Int) + p1.1), ((1 : Int) + p2.1))).1)).2)]), .val (D.lst (l8.map D.str)), .val (D.str v12), .val (D.lst (l18.map D.str)), .val (dO_Grove C_Grove p22.2), .val (D.tup (((srt p28.1)).map D.int)), .val (dO_Grove C_Grove v34), .no, .no, .val (D.tup [D.int v50.1, D.int v50.2]), .val (D.tup [D.int v51.1, D.int v51.2]), .no, .no, .no, .no, .no, .no, .no] _
              obtain ⟨v61, hv61, h⟩ := Option.bind_eq_some_iff.mp h
              refine q (st_asgG (vs := List.range 60) (ev_callF (ea_cons (ev_var rfl) ea_nil) ⟨_, _, hv61, rfl, rfl⟩) (gd_tupU (gs_cons (gd_name (by decide)) (gs_cons (gd_name (by decide)) gs_nil)) rfl) ?_)
              show Dm.St K _ _ [.own (odL D.int s42), .val (D.int (((((1 : Int) + p1.1), ((1 : Int) + p2.1))).1)), .val (D.int (((((1 : Int) + p1.1), ((1 : Int) + p2.1))).2)), .val (D.int p3.1), .val (D.tup [D.int (((p3.1, ((((1 : Int) + p1.1), ((1 : Int) + p2.1))).1)).1), D.int (((p3.1, ((((1 : Int) + p1.1), ((1 : Int) + p2.1))).1)).2)]), .val (D.lst (l8.map D.str)), .val (D.str v12), .val (D.lst (l18.map D.str)), .val (dO_Grove C_Grove p22.2), .val (D.tup (((srt p28.1)).map D.int)), .val (dO_Grove C_Grove v34), .no, .no, .val (D.tup [D.int v50.1, D.int v50.2]), .val (D.tup [D.int v51.1, D.int v51.2]), .val (D.int v61.1), .val (D.int v61.2), .no, .no, .no, .no, .no] _
              obtain ⟨v65, hv65, h⟩ := Option.bind_eq_some_iff.mp h
              obtain ⟨v66, hv66, h⟩ := Option.bind_eq_some_iff.mp h
              obtain ⟨v67, hv67, h⟩ := Option.bind_eq_some_iff.mp h
              refine q_if (et_test (ev_op (ev_op (ev_var rfl) (ev_var rfl) (ty_mul hv65)) (ev_op (ev_op (ev_var rfl) (ev_var rfl) (ty_mul hv66)) (ev_op (ev_var rfl) (ev_var rfl) d_sub) (ty_mul hv67)) d_neI)) (fun hc => ?kt62) (fun hc => ?kf63)
              case kt62 =>
                rw [if_pos hc] at h
                cases h
                refine st_ret ev_bl ⟨rfl, rfl⟩
              case kf63 =>
                rw [if_neg (by rw [hc]; exact Bool.false_ne_true)] at h
                refine st_next ?_
                show Dm.St K _ _ [.own (odL D.int s42), .val (D.int (((((1 : Int) + p1.1), ((1 : Int) + p2.1))).1)), .val (D.int (((((1 : Int) + p1.1), ((1 : Int) + p2.1))).2)), .val (D.int p3.1), .val (D.tup [D.int (((p3.1, ((((1 : Int) + p1.1), ((1 : Int) + p2.1))).1)).1), D.int (((p3.1, ((((1 : Int) + p1.1), ((1 : Int) + p2.1))).1)).2)]), .val (D.lst (l8.map D.str)), .val (D.str v12), .val (D.lst (l18.map D.str)), .val (dO_Grove C_Grove p22.2), .val (D.tup (((srt p28.1)).map D.int)), .val (dO_Grove C_Grove v34), .no, .no, .val (D.tup [D.int v50.1, D.int v50.2]), .val (D.tup [D.int v51.1, D.int v51.2]), .val (D.int v61.1), .val (D.int v61.2), .no, .no, .no, .no, .no] _
                obtain ⟨v68, hv68, h⟩ := Option.bind_eq_some_iff.mp h
                refine q (st_asg (ev_op (ev_callF (ea_cons (ev_var rfl) (ea_cons (ev_var rfl) ea_nil)) ⟨_, _, _, hv68, rfl, rfl⟩) ev_int (d_ixT (by rfl))) ?_)
                show Dm.St K _ _ [.own (odL D.int s42), .val (D.int (((((1 : Int) + p1.1), ((1 : Int) + p2.1))).1)), .val (D.int (((((1 : Int) + p1.1), ((1 : Int) + p2.1))).2)), .val (D.int p3.1), .val (D.tup [D.int (((p3.1, ((((1 : Int) + p1.1), ((1 : Int) + p2.1))).1)).1), D.int (((p3.1, ((((1 : Int) + p1.1), ((1 : Int) + p2.1))).1)).2)]), .val (D.lst (l8.map D.str)), .val (D.str v12), .val (D.lst (l18.map D.str)), .val (dO_Grove C_Grove p22.2), .val (D.tup (((srt p28.1)).map D.int)), .val (dO_Grove C_Grove v34), .no, .no, .val (D.tup [D.int v50.1, D.int v50.2]), .val (D.tup [D.int v51.1, D.int v51.2]), .val (D.int v61.1), .val (D.int v61.2), .val (D.int v68.1), .no, .no, .no, .no] _
                obtain ⟨v72, hv72, h⟩ := Option.bind_eq_some_iff.mp h
                obtain ⟨v73, hv73, h⟩ := Option.bind_eq_some_iff.mp h
                refine q_if (et_or (et_test (ev_op (ev_var rfl) (ev_op (ev_op (ev_var rfl) (ev_op (ev_var rfl) (ev_var rfl) d_sub) (ty_mul hv72)) (ev_var rfl) (ty_div hv73)) d_neI)) fun _ => (et_test (ev_op (ev_var rfl) (ev_op (ev_var rfl) ev_int (d_ixT (by rfl))) d_lt))) (fun hc => ?kt69) (fun hc => ?kf70)
                case kt69 =>
                  rw [if_pos hc] at h
                  cases h
                  refine st_ret ev_bl ⟨rfl, rfl⟩
                case kf70 =>
                  rw [if_neg (by rw [hc]; exact Bool.false_ne_true)] at h
                  refine st_next ?_
                  show Dm.St K _ _ [.own (odL D.int s42), .val (D.int (((((1 : Int) + p1.1), ((1 : Int) + p2.1))).1)), .val (D.int (((((1 : Int) + p1.1), ((1 : Int) + p2.1))).2)), .val (D.int p3.1), .val (D.tup [D.int (((p3.1, ((((1 : Int) + p1.1), ((1 : Int) + p2.1))).1)).1), D.int (((p3.1, ((((1 : Int) + p1.1), ((1 : Int) + p2.1))).1)).2)]), .val (D.lst (l8.map D.str)), .val (D.str v12), .val (D.lst (l18.map D.str)), .val (dO_Grove C_Grove p22.2), .val (D.tup (((srt p28.1)).map D.int)), .val (dO_Grove C_Grove v34), .no, .no, .val (D.tup [D.int v50.1, D.int v50.2]), .val (D.tup [D.int v51.1, D.int v51.2]), .val (D.int v61.1), .val (D.int v61.2), .val (D.int v68.1), .no, .no, .no, .no] _
                  obtain ⟨v77, hv77, h⟩ := Option.bind_eq_some_iff.mp h
                  refine q_if (et_test (ev_op (ev_op (ev_callF (ea_cons (ev_var rfl) ea_nil) ⟨_, _, hv77, rfl, rfl⟩) ev_int (d_ixT (by rfl))) (ev_var rfl) d_neI)) (fun hc => ?kt74) (fun hc => ?kf75)
                  case kt74 =>
                    rw [if_pos hc] at h
                    cases h
                    refine st_ret ev_bl ⟨rfl, rfl⟩
                  case kf75 =>
                    rw [if_neg (by rw [hc]; exact Bool.false_ne_true)] at h
                    refine st_next ?_
                    show Dm.St K _ _ [.own (odL D.int s42), .val (D.int (((((1 : Int) + p1.1), ((1 : Int) + p2.1))).1)), .val (D.int (((((1 : Int) + p1.1), ((1 : Int) + p2.1))).2)), .val (D.int p3.1), .val (D.tup [D.int (((p3.1, ((((1 : Int) + p1.1), ((1 : Int) + p2.1))).1)).1), D.int (((p3.1, ((((1 : Int) + p1.1), ((1 : Int) + p2.1))).1)).2)]), .val (D.lst (l8.map D.str)), .val (D.str v12), .val (D.lst (l18.map D.str)), .val (dO_Grove C_Grove p22.2), .val (D.tup (((srt p28.1)).map D.int)), .val (dO_Grove C_Grove v34), .no, .no, .val (D.tup [D.int v50.1, D.int v50.2]), .val (D.tup [D.int v51.1, D.int v51.2]), .val (D.int v61.1), .val (D.int v61.2), .val (D.int v68.1), .no, .no, .no, .no] _
                    obtain ⟨v82, hv82, h⟩ := Option.bind_eq_some_iff.mp h
                    refine q_if (et_andO (et_test (ev_op (ev_var rfl) ev_int d_gt)) hv82 ?k83) (fun hc => ?kt78) (fun hc => ?kf79)
                    case k83 =>
                      intro hc hb
                      obtain ⟨v81, hv81, hb⟩ := Option.bind_eq_some_iff.mp hb
                      cases hb
                      refine (et_test (ev_op (ev_op (ev_callF (ea_cons (ev_var rfl) (ea_cons (ev_var rfl) ea_nil)) ⟨_, _, _, hv81, rfl, rfl⟩) ev_int (d_ixT (by rfl))) (ev_var rfl) d_gt))
                    case kt78 =>
                      rw [if_pos hc] at h
                      cases h
                      refine st_ret ev_bl ⟨rfl, rfl⟩
                    case kf79 =>
                      rw [if_neg (by rw [hc]; exact Bool.false_ne_true)] at h
                      refine st_next ?_
                      show Dm.St K _ _ [.own (odL D.int s42), .val (D.int (((((1 : Int) + p1.1), ((1 : Int) + p2.1))).1)), .val (D.int (((((1 : Int) + p1.1), ((1 : Int) + p2.1))).2)), .val (D.int p3.1), .val (D.tup [D.int (((p3.1, ((((1 : Int) + p1.1), ((1 : Int) + p2.1))).1)).1), D.int (((p3.1, ((((1 : Int) + p1.1), ((1 : Int) + p2.1))).1)).2)]), .val (D.lst (l8.map D.str)), .val (D.str v12), .val (D.lst (l18.map D.str)), .val (dO_Grove C_Grove p22.2), .val (D.tup (((srt p28.1)).map D.int)), .val (dO_Grove C_Grove v34), .no, .no, .val (D.tup [D.int v50.1, D.int v50.2]), .val (D.tup [D.int v51.1, D.int v51.2]), .val (D.int v61.1), .val (D.int v61.2), .val (D.int v68.1), .no, .no, .no, .no] _
                      obtain ⟨v84, hv84, h⟩ := Option.bind_eq_some_iff.mp h
                      refine q (st_asg (ev_callF (ea_cons (ev_var rfl) ea_nil) ⟨_, _, hv84, rfl, rfl⟩) ?_)
                      show Dm.St K _ _ [.own (odL D.int s42), .val (D.int (((((1 : Int) + p1.1), ((1 : Int) + p2.1))).1)), .val (D.int (((((1 : Int) + p1.1), ((1 : Int) + p2.1))).2)), .val (D.int p3.1), .val (D.tup [D.int (((p3.1, ((((1 : Int) + p1.1), ((1 : Int) + p2.1))).1)).1), D.int (((p3.1, ((((1 : Int) + p1.1), ((1 : Int) + p2.1))).1)).2)]), .val (D.lst (l8.map D.str)), .val (D.str v12), .val (D.lst (l18.map D.str)), .val (dO_Grove C_Grove p22.2), .val (D.tup (((srt p28.1)).map D.int)), .val (dO_Grove C_Grove v34), .no, .no, .val (D.tup [D.int v50.1, D.int v50.2]), .val (D.tup [D.int v51.1, D.int v51.2]), .val (D.int v61.1), .val (D.int v61.2), .val (D.int v68.1), .val (v84), .no, .no, .no] _
                      obtain ⟨v88, hv88, h⟩ := Option.bind_eq_some_iff.mp h
                      obtain ⟨v89, hv89, h⟩ := Option.bind_eq_some_iff.mp h
                      refine q_if (et_test (ev_op (ev_op (ev_op (ev_var rfl) ev_int (ty_ixD hv88)) ev_str (ty_eq hv89)) (ev_op (ev_op (ev_var rfl) ev_int (d_ixT (by rfl))) (ev_var rfl) d_eqI) d_neB)) (fun hc => ?kt85) (fun hc => ?kf86)
                      case kt85 =>
                        rw [if_pos hc] at h
                        cases h
                        refine st_ret ev_bl ⟨rfl, rfl⟩
                      case kf86 =>
                        rw [if_neg (by rw [hc]; exact Bool.false_ne_true)] at h
                        refine st_next ?_
                        show Dm.St K _ _ [.own (odL D.int s42), .val (D.int (((((1 : Int) + p1.1), ((1 : Int) + p2.1))).1)), .val (D.int (((((1 : Int) + p1.1), ((1 : Int) + p2.1))).2)), .val (D.int p3.1), .val (D.tup [D.int (((p3.1, ((((1 : Int) + p1.1), ((1 : Int) + p2.1))).1)).1), D.int (((p3.1, ((((1 : Int) + p1.1), ((1 : Int) + p2.1))).1)).2)]), .val (D.lst (l8.map D.str)), .val (D.str v12), .val (D.lst (l18.map D.str)), .val (dO_Grove C_Grove p22.2), .val (D.tup (((srt p28.1)).map D.int)), .val (dO_Grove C_Grove v34), .no, .no, .val (D.tup [D.int v50.1, D.int v50.2]), .val (D.tup [D.int v51.1, D.int v51.2]), .val (D.int v61.1), .val (D.int v61.2), .val (D.int v68.1), .val (v84), .no, .no, .no] _
                        obtain ⟨v93, hv93, h⟩ := Option.bind_eq_some_iff.mp h
                        obtain ⟨v94, hv94, h⟩ := Option.bind_eq_some_iff.mp h
                        obtain ⟨v98, hv98, h⟩ := Option.bind_eq_some_iff.mp h
                        refine q_if (et_andO (et_test (ev_op (ev_op (ev_var rfl) ev_int (ty_ixD hv93)) ev_str (ty_eq hv94))) hv98 ?k99) (fun hc => ?kt90) (fun hc => ?kf91)
                        case k99 =>
                          intro hc hb
                          obtain ⟨v95, hv95, hb⟩ := Option.bind_eq_some_iff.mp hb
                          obtain ⟨v96, hv96, hb⟩ := Option.bind_eq_some_iff.mp hb
                          obtain ⟨v97, hv97, hb⟩ := Option.bind_eq_some_iff.mp hb
                          cases hb
                          refine (et_test (ev_op (ev_callF (ea_cons (ev_var rfl) (ea_cons (ev_is (ev_op (ev_var rfl) ev_int (ty_ixD hv95)) (asI_eq hv96)) ea_nil)) ⟨_, _, _, hv97, rfl, rfl⟩) (ev_var rfl) d_neI))
                        case kt90 =>
                          rw [if_pos hc] at h
                          cases h
                          refine st_ret ev_bl ⟨rfl, rfl⟩
                        case kf91 =>
                          rw [if_neg (by rw [hc]; exact Bool.false_ne_true)] at h
                          refine st_next ?_
                          show Dm.St K _ _ [.own (odL D.int s42), .val (D.int (((((1 : Int) + p1.1), ((1 : Int) + p2.1))).1)), .val (D.int (((((1 : Int) + p1.1), ((1 : Int) + p2.1))).2)), .val (D.int p3.1), .val (D.tup [D.int (((p3.1, ((((1 : Int) + p1.1), ((1 : Int) + p2.1))).1)).1), D.int (((p3.1, ((((1 : Int) + p1.1), ((1 : Int) + p2.1))).1)).2)]), .val (D.lst (l8.map D.str)), .val (D.str v12), .val (D.lst (l18.map D.str)), .val (dO_Grove C_Grove p22.2), .val (D.tup (((srt p28.1)).map D.int)), .val (dO_Grove C_Grove v34), .no, .no, .val (D.tup [D.int v50.1, D.int v50.2]), .val (D.tup [D.int v51.1, D.int v51.2]), .val (D.int v61.1), .val (D.int v61.2), .val (D.int v68.1), .val (v84), .no, .no, .no] _
                          obtain ⟨v100, hv100, h⟩ := Option.bind_eq_some_iff.mp h
                          obtain ⟨v101, hv101, h⟩ := Option.bind_eq_some_iff.mp h
                          obtain ⟨v102, hv102, h⟩ := Option.bind_eq_some_iff.mp h
                          obtain ⟨v104, hv104, h⟩ := Option.bind_eq_some_iff.mp h
                          cases h
                          refine st_ret (ev_andO (ev_op (ev_op (ev_callF (ea_cons (ev_var rfl) (ea_cons (ev_var rfl) ea_nil)) ⟨_, _, _, hv100, rfl, rfl⟩) ev_int d_gt) (ev_op (ev_op (ev_var rfl) ev_int (ty_ixD hv101)) ev_str (ty_eq hv102)) d_eqB) hv104 ?k105) ⟨rfl, rfl⟩
                          case k105 =>
                            intro hc hb
                            obtain ⟨v103, hv103, hb⟩ := Option.bind_eq_some_iff.mp hb
                            cases hb
                            refine (ev_op (ev_callF (ea_cons (ev_var rfl) (ea_cons (ev_op (ev_var rfl) ev_int (d_ixT (by rfl))) ea_nil)) ⟨_, _, _, hv103, rfl, rfl⟩) ev_int d_eqI)
          case kr38 =>
            subst hr
            cases h
            exact hp
def F_law (a0 : List Int) : Option Bool :=
  (F__law_cells a0 ((2 : Int))).bind fun v5 =>
  (forC (ρ := Bool) (σ := Unit) (fun x7 s6 => (F__law_pot a0 x7).bind fun v9 =>
  (pyRng ((3 : Int))).bind fun l13 =>
  (lcS (σ := (List Int)) (fun x16 s17 => (F__law_right s17).bind fun p18 =>
  some (some p18.1, (p18.2))) l13 (v9)).bind fun p19 =>
  if (!(p19.1.all id)) = true then some (.rt false) else some (.nx (()))) v5 (())).bind fun c22 =>
  match c22 with
  | .nx s8 => some true
  | .bk _ => none
  | .rt r => some r
def M_law : List Nat := [2]
def R_law (ds : List D) (x : Res) : Prop := ∃ (a0 : List Int) (r : Bool), F_law a0 = some r ∧ ds = [D.scr a0] ∧ x = .v (D.bl r)
theorem len_law : ∀ (vs : List V) (H : Hp) (Q : VK) (E : XK), spF K R_law vs H Q E → vs.length = 1 := spF_len (by rintro _ _ ⟨_, _, _, rfl, _⟩; rfl)
theorem p_law : ∀ ds x, R_law ds x → Dm.St K M_law (t_law K (spF K R__law_cells) (spF K R__law_pot) (spO K R__law_right)) (ds.map Slot.val ++ List.replicate (N_law.length - ds.length) .no) (RetF x) := by
  rintro _ _ ⟨a0, r, h, rfl, rfl⟩
  show Dm.St K _ _ [.val (D.scr a0), .no, .no, .no] _
  unfold F_law at h
  obtain ⟨v5, hv5, h⟩ := Option.bind_eq_some_iff.mp h
  obtain ⟨c22, hc22, h⟩ := Option.bind_eq_some_iff.mp h
  refine q (st_forC (vs := List.range 60) (Mb := M_law) (φ := D.int) (J := fun s6 : Unit => [.val (D.scr a0), .no, .no, .no]) (PR := fun z y _ => y = .v (D.bl z)) (it_anyL (ev_callF (ea_cons (ev_var rfl) (ea_cons ev_int ea_nil)) ⟨_, _, _, hv5, rfl, rfl⟩)) hc22 (fun _ z => z) (.same (.same (.same (.same .nil)))) (fun _ _ _ _ => trivial) ?kb1 (fun s8 hs => ?kn2) (fun r d e hr hp => ?kr4))
  case kb1 =>
    intro x7 hx s6 c hb
    refine ⟨_, (gd_name (by decide)), ?_⟩
    obtain ⟨v9, hv9, hb⟩ := Option.bind_eq_some_iff.mp hb
    refine q (st_asgW (by decide) (by decide) (ew_callF (ea_cons (ev_var rfl) (ea_cons (ev_var rfl) ea_nil)) ⟨_, _, _, hv9, rfl, rfl⟩) ?_)
    show Dm.St K _ _ [.val (D.scr a0), .val (D.int x7), .own (odL D.int v9), .no] _
    obtain ⟨l13, hl13, hb⟩ := Option.bind_eq_some_iff.mp hb
    obtain ⟨p19, hp19, hb⟩ := Option.bind_eq_some_iff.mp hb
    refine st_if (et_not (et_B (ev_cb (ea_cons (ev_fzT (ew_lcST (φ := D.int) (ψ := D.bl) (J := fun s17 : (List Int) => [.val (D.scr a0), .val (D.int x7), .own (odL D.int s17), .no]) (M' := [2]) (it_rng (ea_cons ev_int ea_nil) hl13) hp19 (by decide) rfl (fun _ _ _ _ => trivial) (jv_of (by intro s s'; rfl)) (fun _ _ => rfl) ?k20)) ea_nil) d_all))) (fun hc => ?kt10) (fun hc => ?kf11)
    case k20 =>
      intro x16 hx s17 p hp
      obtain ⟨p18, hp18, hp⟩ := Option.bind_eq_some_iff.mp hp
      cases hp
      refine ⟨_, (gd_name (by decide)), true, _, et_yes, (fun z => nomatch z), fun _ => ⟨_, _, (ev_callO (M' := []) (pl_var rfl) ea_nil (by decide) (by decide) (by decide) rfl rfl rfl ⟨_, _, _, hp18, rfl, rfl, rfl, rfl⟩), rfl, ?_⟩⟩
      exact out_wp (by rfl) (by rfl)
    case kt10 =>
      rw [if_pos hc] at hb
      cases hb
      refine st_ret ev_bl rfl
    case kf11 =>
      rw [if_neg (by rw [hc]; exact Bool.false_ne_true)] at hb
      refine st_next ?_
      cases hb
      exact (.same (.drop (.drop (.same .nil))))
  case kn2 =>
    subst hs
    show Dm.St K _ _ [.val (D.scr a0), .no, .no, .no] _
    cases h
    refine st_ret ev_bl rfl
  case kr4 =>
    subst hr
    cases h
    exact hp
end K92

set_option Elab.async false
set_option linter.all false
set_option maxRecDepth 100000
set_option maxHeartbeats 4000000
set_option autoImplicit false
namespace K92
open PySem L2 Dm StX PyProof.Rows
/-! ints, plants -/
theorem S_is_integer {a : Int} : F_is_integer a = some true := rfl
theorem S_is_between {a b c : Int} : F_is_between a b c = some (decide (b ≤ a) && decide (a ≤ c)) := by
  rw [F_is_between, S_is_integer]; simp
theorem S_in {a b c : Int} (h : b ≤ a ∧ a ≤ c) : F_is_between a b c = some true := by
  rw [S_is_between]; simp [h.1, h.2]
theorem S_check_year {a : Int} (h : 0 ≤ a ∧ a ≤ 9999) : F_check_year a = some () := by
  rw [F_check_year, S_in h]; rfl
theorem S_check_number {a : Int} (h : 0 ≤ a ∧ a ≤ 60) : F_check_number a = some () := by
  rw [F_check_number, S_in h]; rfl
/-- a life -/
structure Life (y l : Int) : Prop where
  y0 : 0 ≤ y
  yl : y < l
  l60 : l ≤ 60
theorem Life.pos {y l : Int} (h : Life y l) : 0 < l := by have := h.y0; have := h.yl; omega
theorem S_check_life {y l : Int} (h : Life y l) : F_check_life (y, l) = some () := by
  have h0 := h.y0; have h1 := h.yl; have h2 := h.l60
  rw [F_check_life, S_in (a := l) (b := 1) (c := 60) ⟨by omega, by omega⟩, S_in (a := y) (b := 0) (c := l - 1) ⟨by omega, by omega⟩]
  rfl
/-- plants of a life -/
structure Plants (l : Int) (ps : List Int) : Prop where
  le : ps.length ≤ 60
  bd : ∀ p ∈ ps, 0 ≤ p ∧ p < l
  so : ps.Pairwise (· ≤ ·)
theorem pw_zip : ∀ {ps : List Int}, ps.Pairwise (· ≤ ·) → ∀ q ∈ ps.zip (ps.drop 1), q.1 ≤ q.2
  | [], _, q, h => by simp at h
  | [a], _, q, h => by simp at h
  | a :: b :: ps, hp, q, h => by
    have h : q ∈ (a, b) :: (b :: ps).zip ps := h
    rw [List.pairwise_cons] at hp
    rcases List.mem_cons.mp h with rfl | h
    · exact hp.1 b List.mem_cons_self
    · exact pw_zip hp.2 q h
theorem cut1 {α : Type} (ps : List α) : cutL ps (some 1) none = ps.drop 1 := by
  unfold cutL
  cases ps with
  | nil => simp
  | cons a ps =>
    have e1 : HT.sIx (a :: ps).length 0 (some 1) = 1 := by simp [HT.sIx]
    have e2 : HT.sIx (a :: ps).length (a :: ps).length none = (a :: ps).length := by simp [HT.sIx]
    rw [e1, e2]; simp
theorem S_are_plants_of {y l : Int} {ps : List Int} (h : Plants l ps) : F_are_plants_of (y, l) ps = some true := by
  have hle := h.le
  rw [F_are_plants_of, if_neg (by simp; omega), lcM_map (fun _ => true) (by omega) fun x hx => by
    have := h.bd x hx
    rw [S_in ⟨this.1, by show x ≤ l - 1; omega⟩]; rfl]
  rw [Option.bind_some, if_neg (by simp), cut1, lcM_map (fun _ => true) (by rw [List.length_zip]; omega) fun x hx => by simp [pw_zip h.so x hx]]
  rw [Option.bind_some]; simp
theorem S_check_plants {y l : Int} {ps : List Int} (h : Life y l) (h2 : Plants l ps) : F_check_plants (y, l) ps = some () := by
  rw [F_check_plants, S_check_life h, Option.bind_some, S_are_plants_of h2]; rfl
/-- how many of the plants bear in a year -/
def bearB (y l : Int) (ps : List Int) (t : Int) : Int := (ps.filter fun p => decide (y ≤ (t - p) % l)).length
theorem S_bearing_by {y l : Int} {ps : List Int} {t : Int} (h : 0 < l) (h2 : ps.length ≤ 60) : F_bearing_by (y, l) ps t = some (bearB y l ps t) := by
  rw [F_bearing_by, lcM_eq (fun p => decide (y ≤ (t - p) % l)) (fun _ => 1) (by omega) (fun p _ => by
    rw [show pyMod (t - p) (y, l).2 = some ((t - p) % l) from mod_ok h]; rfl) fun _ _ _ => rfl, Option.bind_some, List.length_map]
  rfl
theorem S_bearing {y l : Int} {ps : List Int} {t : Int} (h : Life y l) (h2 : Plants l ps) (h3 : 0 ≤ t ∧ t ≤ 9999) : F_bearing (y, l) ps t = some (bearB y l ps t) := by
  rw [F_bearing, S_check_plants h h2, Option.bind_some, S_check_year h3, Option.bind_some, S_bearing_by h.pos h2.le]; rfl
/-- the rows of a life -/
def rowsB (y l : Int) (ps : List Int) : List Int := (List.range l.toNat).map fun i => bearB y l ps (i : Nat)
theorem S_bearings_of {y l : Int} {ps : List Int} (h : Life y l) (h2 : ps.length ≤ 60) : F_bearings_of (y, l) ps = some (rowsB y l ps) := by
  have h0 := h.pos; have h1 := h.l60
  rw [F_bearings_of, show pyRng (y, l).2 = some (rngI l) from rng_ok (by unfold Sm; omega) (by omega) (by omega), Option.bind_some,
    lcM_map (fun t => bearB y l ps t) (by rw [rngI_len]; omega) fun t _ => by rw [S_bearing_by h0 h2]; rfl, Option.bind_some]
  rw [rngI, List.map_map]; rfl
theorem rowsB_ne {y l : Int} {ps : List Int} (h : Life y l) : rowsB y l ps ≠ [] := by
  intro e
  have : (rowsB y l ps).length = 0 := by rw [e]; rfl
  have hl := h.pos
  simp [rowsB] at this
  omega
theorem S_least_bearing {y l : Int} {ps : List Int} (h : Life y l) (h2 : Plants l ps) : F_least_bearing (y, l) ps = some (mnL (rowsB y l ps), (((rowsB y l ps).idxOf (mnL (rowsB y l ps)) : Nat) : Int)) := by
  rw [F_least_bearing, S_check_plants h h2, Option.bind_some, S_bearings_of h h2.le, Option.bind_some, min_ok (rowsB_ne h), Option.bind_some, Option.bind_some, index_ok (mnL_mem (rowsB_ne h))]; rfl
theorem S_most_bearing {y l : Int} {ps : List Int} (h : Life y l) (h2 : Plants l ps) : F_most_bearing (y, l) ps = some (mxL (rowsB y l ps), (((rowsB y l ps).idxOf (mxL (rowsB y l ps)) : Nat) : Int)) := by
  rw [F_most_bearing, S_check_plants h h2, Option.bind_some, S_bearings_of h h2.le, Option.bind_some, max_ok (rowsB_ne h), Option.bind_some, Option.bind_some, index_ok (mxL_mem (rowsB_ne h))]; rfl
/-! plants evenly spread -/
def evenP (l n : Int) : List Int := (List.range n.toNat).map fun i => ((i : Nat) : Int) * l / n
theorem S_even_plants {y l n : Int} (h : Life y l) (h2 : 1 ≤ n ∧ n ≤ 60) : F_even_plants (y, l) n = some (evenP l n) := by
  have h0 := h.pos; have h1 := h.l60
  rw [F_even_plants, rng_ok (by unfold Sm; omega) (by omega) (by omega), Option.bind_some, lcM_map (fun i => i * l / n) (by rw [rngI_len]; omega) fun i hi => by
    have hi := mem_rngI.mp hi
    show (pyMul i l).bind _ = _
    rw [mul_ok (by unfold Sm; omega) (by unfold Sm; omega), Option.bind_some, div_ok (by omega) (by unfold Sm; omega)]; rfl, Option.bind_some]
  rw [rngI, List.map_map]; rfl
theorem S_most_always {y l n : Int} (h : Life y l) (h2 : 0 ≤ n ∧ n ≤ 60) : F_most_always (y, l) n = some (n * (l - y) / l) := by
  have h0 := h.pos; have h1 := h.l60; have h3 := h.y0; have h4 := h.yl
  show (pyMul n (l - y)).bind _ = _
  rw [mul_ok (by unfold Sm; omega) (by unfold Sm; omega), Option.bind_some]
  show (pyDiv _ l).bind _ = _
  rw [div_ok h0 (by unfold Sm; omega)]; rfl
theorem S_best_plants {y l n : Int} (h : Life y l) (h2 : 1 ≤ n ∧ n ≤ 60) : F_best_plants (y, l) n = some (n * (l - y) / l, evenP l n) := by
  rw [F_best_plants, S_check_life h, Option.bind_some, S_check_number ⟨by omega, h2.2⟩, Option.bind_some, S_most_always h ⟨by omega, h2.2⟩, Option.bind_some, S_even_plants h h2]; rfl

end K92

set_option Elab.async false
set_option linter.all false
set_option maxRecDepth 100000
set_option maxHeartbeats 4000000
set_option autoImplicit false
namespace K92
open PySem L2 Dm StX PyProof.Rows
/-! words -/
def NmOk (x : Str) : Prop := x.length ≤ 8 ∧ (∃ c, atI x.cps.toList 0 = some c ∧ c ∈ ("abcdefghijklmnopqrstuvwxyz" : Str).cps.toList) ∧ ∀ c ∈ x.cps.toList, c ∈ ("abcdefghijklmnopqrstuvwxyz" : Str).cps.toList ∨ c ∈ ("0123456789" : Str).cps.toList
theorem sgIn1 {c : Nat} {z : Str} : pySgIn ⟨#[c]⟩ z = some (decide (c ∈ z.cps.toList)) := rfl
theorem atI_pos {α : Type} {l : List α} {c : α} (h : atI l 0 = some c) : 0 < l.length := by
  cases l with
  | nil => simp [atI] at h
  | cons a l => simp
theorem all_map_id {α : Type} (f : α → Bool) (l : List α) : (l.map f).all id = l.all f := by rw [List.all_map]; rfl
theorem mem_sgs {z x : Str} : x ∈ sgs z ↔ ∃ c ∈ z.cps.toList, x = ⟨#[c]⟩ := by
  unfold sgs; rw [List.mem_map]
  exact ⟨fun ⟨c, h, e⟩ => ⟨c, h, e.symm⟩, fun ⟨c, h, e⟩ => ⟨c, h, e.symm⟩⟩
theorem sgs_len {z : Str} : (sgs z).length = z.length := by simp [sgs, Str.length]
theorem S_is_name {x : Str} (h : NmOk x) : F_is_name x = some true := by
  obtain ⟨h1, ⟨c, h2, h3⟩, h4⟩ := h
  have hp : 0 < x.length := by
    have := atI_pos h2
    simpa [Str.length] using this
  have e1 : pyIxS x 0 = some ⟨#[c]⟩ := by unfold pyIxS; rw [if_pos (by omega), h2]; rfl
  have e2 : ∀ s ∈ sgs x, (fun x11 => (pySgIn x11 ("abcdefghijklmnopqrstuvwxyz" : Str)).bind fun v12 => (if v12 = true then some true else (pySgIn x11 ("0123456789" : Str)).bind fun v13 => some v13).bind fun v14 => some v14) s = some true := fun s hs => by
    obtain ⟨d, hd, rfl⟩ := mem_sgs.mp hs
    show (pySgIn ⟨#[d]⟩ _).bind _ = _
    rw [sgIn1, Option.bind_some, sgIn1]
    rcases h4 d hd with h | h
    · simp [h]
    · simp [h]
  rw [F_is_name, if_neg (by simp), lenS_ok (by omega), Option.bind_some, if_neg (by simp; omega), e1, Option.bind_some, sgIn1, Option.bind_some, Option.bind_some, Option.bind_some, if_neg (by simpa using h3), lcM_map (fun _ => true) (by rw [sgs_len]; omega) e2, Option.bind_some]
  simp
/-- w tells n -/
structure RdI (w : Str) (n : Int) : Prop where
  pos : 0 < w.length
  le : w.length ≤ 9
  sg : cutS w none (some 1) ≠ ("-" : Str)
  fg : ∀ c ∈ w.cps.toList, c ∈ ("0123456789" : Str).cps.toList
  rd : intText? w = some n
  bk : Str.ofString (toString n) = w
  sm : n.natAbs.log2 < 1920
theorem S_read_integer {w : Str} {n : Int} (h : RdI w n) : F_read_integer w = some (some n) := by
  obtain ⟨h1, h2, h3, h4, h5, h6, h7⟩ := h
  have e1 : pySlS w none (some 1) = some (cutS w none (some 1)) := by unfold pySlS; rw [if_pos (by omega)]
  have hne : w ≠ "" := fun z => by rw [z] at h1; exact absurd h1 (by decide)
  have e2 : lcM (fun _ => some true) (fun x10 => (pySgIn x10 ("0123456789" : Str)).bind fun v11 => some v11) (sgs w) = some ((sgs w).map fun _ => true) := lcM_map _ (by rw [sgs_len]; omega) fun s hs => by
    obtain ⟨d, hd, rfl⟩ := mem_sgs.mp hs
    show (pySgIn ⟨#[d]⟩ _).bind _ = _
    rw [sgIn1]; simp [h4 d hd]
  have e3 : pyInt w = some n := by unfold pyInt; rw [if_pos (by omega), h5]
  have e4 : Dm.pyStr n = some w := by unfold Dm.pyStr; rw [if_pos h7, h6]
  rw [F_read_integer, e1, Option.bind_some, if_neg (by simpa using h3), Option.bind_some, if_neg (by simpa using hne), lenS_ok (by omega), Option.bind_some, if_neg (by simp; omega), e2, Option.bind_some, Option.bind_some, Option.bind_some,
    if_neg (by simp), e3, Option.bind_some, e4, Option.bind_some, if_pos (by simp)]
  rfl
def PatOk (p : Str) : Prop := 0 < p.length ∧ p.length ≤ 6 ∧ (∀ c ∈ p.cps.toList, c ∈ ("01" : Str).cps.toList) ∧ (49 : Nat) ∈ p.cps.toList
theorem one_eq : ("1" : Str) = ⟨#[49]⟩ := by decide
theorem S_is_pattern {p : Str} (h : PatOk p) : F_is_pattern p = some true := by
  obtain ⟨h1, h2, h3, h4⟩ := h
  have e2 : lcM (fun _ => some true) (fun x2 => (pySgIn x2 ("01" : Str)).bind fun v3 => some v3) (sgs p) = some ((sgs p).map fun _ => true) := lcM_map _ (by rw [sgs_len]; omega) fun s hs => by
    obtain ⟨d, hd, rfl⟩ := mem_sgs.mp hs
    show (pySgIn ⟨#[d]⟩ _).bind _ = _
    rw [sgIn1]; simp [h3 d hd]
  rw [F_is_pattern, lenS_ok (by omega), Option.bind_some, if_pos (by simp; omega), e2, Option.bind_some, if_pos (by simp), one_eq, sgIn1]
  simp [h4]
theorem S_is_day {a : Int} (h : 0 ≤ a ∧ a ≤ 999) : F_is_day a = some true := by rw [F_is_day, S_in h]; rfl
/-! a palm's words -/
abbrev Pm : Type := Int × Int × Int × Str × Int
structure PalmOk (q : Pm) : Prop where
  he : 1 ≤ q.1 ∧ q.1 ≤ 60
  ho : 0 ≤ q.2.1 ∧ q.2.1 ≤ 999
  ht : 0 ≤ q.2.2.1 ∧ q.2.2.1 ≤ 999
  ot : q.2.1 ≤ q.2.2.1
  hp : PatOk q.2.2.2.1
  hn : 1 ≤ q.2.2.2.2 ∧ q.2.2.2.2 ≤ 99
theorem S_palm_in {w0 w1 w2 w4 : Str} {q : Pm} (h : PalmOk q) (r0 : RdI w0 q.1) (r1 : RdI w1 q.2.1) (r2 : RdI w2 q.2.2.1) (r4 : RdI w4 q.2.2.2.2) : F_palm_in [w0, w1, w2, q.2.2.2.1, w4] = some (some q) := by
  obtain ⟨e, o, t, p, n⟩ := q
  obtain ⟨he, ho, ht, hot, hp, hn⟩ := h
  simp only at *
  have e0 : cutL [w0, w1, w2, p, w4] none (some 3) = [w0, w1, w2] := rfl
  have e1 : lcM (fun _ => some true) (fun x1 => (F_read_integer x1).bind fun v2 => some v2) [w0, w1, w2] = some [some e, some o, some t] := by
    unfold lcM
    rw [if_pos (Nat.le_of_ble_eq_true rfl)]
    simp [lcP, S_read_integer r0, S_read_integer r1, S_read_integer r2]
  have e2 : pyIx [w0, w1, w2, p, w4] 4 = some w4 := rfl
  have e3 : pyIx [w0, w1, w2, p, w4] 3 = some p := rfl
  rw [F_palm_in, e0, e1, Option.bind_some, show un3 [some e, some o, some t] = some (some e, some o, some t) from rfl, Option.bind_some, e2, Option.bind_some, S_read_integer r4, Option.bind_some]
  simp only [Option.bind_some, S_in he, S_is_day ho, S_is_day ht, e3, S_is_pattern hp, S_in hn]
  simp [hot]

end K92

set_option Elab.async false
set_option linter.all false
set_option maxRecDepth 100000
set_option maxHeartbeats 4000000
set_option autoImplicit false
namespace K92
open PySem L2 Dm StX PyProof.Rows
/-! groves, told -/
def num (n : Int) : Str := Str.ofString (toString n)
def rdB (n : Nat) : Bool := decide (0 < (num (n : Nat)).length) && decide ((num (n : Nat)).length ≤ 3) && decide (cutS (num (n : Nat)) none (some 1) ≠ ("-" : Str)) && (num (n : Nat)).cps.toList.all fun c => decide (c ∈ ("0123456789" : Str).cps.toList)
theorem rdB_all : ∀ n < 1000, rdB n = true := by decide +kernel
theorem rdN {n : Int} (h0 : 0 ≤ n) (h1 : n < 1000) : RdI (num n) n ∧ (num n).length ≤ 3 := by
  obtain ⟨m, rfl⟩ := Int.eq_ofNat_of_zero_le h0
  have := rdB_all m (by omega)
  unfold rdB at this
  simp only [Bool.and_eq_true, decide_eq_true_eq, List.all_eq_true] at this
  obtain ⟨⟨⟨h2, h3⟩, h4⟩, h5⟩ := this
  refine ⟨⟨h2, by omega, h4, h5, PySem.W.KIN.num_reads h0 (by omega), rfl, ?_⟩, h3⟩
  have := log_sm (i := ((m : Nat) : Int)) (by unfold Sm; omega)
  omega
theorem num_free {n : Int} (h0 : 0 ≤ n) (h1 : n < 1000) : ∀ c ∈ TL.tl (num n), 48 ≤ c ∧ c ≤ 57 := fun c hc => by
  have h := (rdN h0 h1).1.fg c hc
  have : ∀ c ∈ ("0123456789" : Str).cps.toList, 48 ≤ c ∧ c ≤ 57 := by decide
  exact this c h
/-- a line of the head -/
theorem takes_head {s : O_GroveReader} {w1 w2 : Str} {a b : Int} (h : s.own_head = none) (r1 : RdI w1 a) (r2 : RdI w2 b) (ha : 1 ≤ a ∧ a ≤ 3) (hb : 1 ≤ b ∧ b ≤ 6) : F_GroveReader_takes_head s [some a, some b] = some (true, { s with own_head := some (a, b) }) := by
  rw [F_GroveReader_takes_head, if_neg (by rw [h]; simp), show pyIx [some a, some b] 0 = some (some a) from rfl, show pyIx [some a, some b] 1 = some (some b) from rfl]
  simp only [Option.bind_some, S_in ha, S_in hb]
  simp
theorem takes_H {s : O_GroveReader} {line w1 w2 : Str} {a b : Int} (hs : pySplit line (" " : Str) = some [("grove" : Str), w1, w2]) (h : s.own_head = none) (r1 : RdI w1 a) (r2 : RdI w2 b) (ha : 1 ≤ a ∧ a ≤ 3) (hb : 1 ≤ b ∧ b ≤ 6) : F_GroveReader_takes s line = some (true, { s with own_head := some (a, b) }) := by
  have e1 : lcM (fun _ => some true) (fun x6 => (F_read_integer x6).bind fun v7 => some v7) [w1, w2] = some [some a, some b] := by
    unfold lcM
    rw [if_pos (Nat.le_of_ble_eq_true rfl)]
    simp [lcP, S_read_integer r1, S_read_integer r2]
  rw [F_GroveReader_takes, hs, Option.bind_some, show pyIx [("grove" : Str), w1, w2] 0 = some ("grove" : Str) from rfl, Option.bind_some, if_pos (by simp), show cutL [("grove" : Str), w1, w2] (some 1) none = [w1, w2] from rfl, e1, Option.bind_some,
    takes_head h r1 r2 ha hb]
  rfl
theorem S_is_new {s : O_GroveReader} {nm : Str} (h : NmOk nm) (h1 : mGet s.own_palms nm = none) (h2 : mGet s.own_males nm = none) : F_GroveReader_is_new s nm = some true := by
  rw [F_GroveReader_is_new, S_is_name h, Option.bind_some, h1, h2]; rfl
theorem mPut_new {α β : Type} [DecidableEq α] : ∀ {m : List (α × β)} {k : α} {v : β}, mGet m k = none → mPut m k v = m ++ [(k, v)] := fun {m k v} h => by
  have : k ∉ m.map Prod.fst := by
    induction m with
    | nil => simp
    | cons p m ih =>
      unfold mGet at h
      by_cases e : p.1 = k
      · rw [if_pos e] at h; cases h
      · rw [if_neg e] at h
        simp only [List.map_cons, List.mem_cons, not_or]
        exact ⟨fun z => e z.symm, ih h⟩
  unfold mPut; rw [if_neg this]
theorem takes_P {s : O_GroveReader} {line nm w0 w1 w2 w4 : Str} {q : Pm} (hs : pySplit line (" " : Str) = some [("palm" : Str), nm, w0, w1, w2, q.2.2.2.1, w4]) (h : s.own_head.isSome = true) (hn : NmOk nm) (h1 : mGet s.own_palms nm = none) (h2 : s.own_males = []) (hl : s.own_palms.length < 12)
    (hq : PalmOk q) (r0 : RdI w0 q.1) (r1 : RdI w1 q.2.1) (r2 : RdI w2 q.2.2.1) (r4 : RdI w4 q.2.2.2.2) : F_GroveReader_takes s line = some (true, { s with own_palms := s.own_palms ++ [(nm, q)] }) := by
  have hne : ("palm" : Str) ≠ ("grove" : Str) := by decide
  have h3 : s.own_head.isNone = false := by cases hh : s.own_head with
    | none => rw [hh] at h; cases h
    | some _ => rfl
  have e1 : mSet s.own_palms nm q = some (s.own_palms ++ [(nm, q)]) := by unfold mSet; rw [if_pos (by omega), mPut_new h1]
  rw [F_GroveReader_takes, hs, Option.bind_some, show pyIx [("palm" : Str), nm, w0, w1, w2, q.2.2.2.1, w4] 0 = some ("palm" : Str) from rfl, Option.bind_some, if_neg (by simp [hne]), if_neg (by rw [h3]; simp),
    if_neg (by simp), show pyIx [("palm" : Str), nm, w0, w1, w2, q.2.2.2.1, w4] 1 = some nm from rfl, Option.bind_some, S_is_new hn h1 (by rw [h2]; rfl), Option.bind_some, Option.bind_some, Option.bind_some, if_neg (by simp), Option.bind_some, if_pos (by simp),
    show cutL [("palm" : Str), nm, w0, w1, w2, q.2.2.2.1, w4] (some 2) none = [w0, w1, w2, q.2.2.2.1, w4] from rfl, S_palm_in hq r0 r1 r2 r4, Option.bind_some, if_neg (by rw [h2]; simp; omega), Option.bind_some, Option.bind_some, e1, Option.bind_some]
abbrev Mm : Type := Int × Int × Int
structure MaleOk (q : Mm) : Prop where
  ho : 0 ≤ q.1 ∧ q.1 ≤ 999
  hl : 1 ≤ q.2.1 ∧ q.2.1 ≤ 20
  hk : 0 ≤ q.2.2 ∧ q.2.2 ≤ 30
theorem S_male_in {w0 w1 w2 : Str} {q : Mm} (h : MaleOk q) (r0 : RdI w0 q.1) (r1 : RdI w1 q.2.1) (r2 : RdI w2 q.2.2) : F_male_in [w0, w1, w2] = some (some q) := by
  obtain ⟨o, l, k⟩ := q
  obtain ⟨ho, hl, hk⟩ := h
  simp only at *
  have e1 : lcM (fun _ => some true) (fun x1 => (F_read_integer x1).bind fun v2 => some v2) [w0, w1, w2] = some [some o, some l, some k] := by
    unfold lcM
    rw [if_pos (Nat.le_of_ble_eq_true rfl)]
    simp [lcP, S_read_integer r0, S_read_integer r1, S_read_integer r2]
  rw [F_male_in, e1, Option.bind_some, show un3 [some o, some l, some k] = some (some o, some l, some k) from rfl, Option.bind_some]
  simp only [Option.bind_some, S_is_day ho, S_in hl, S_in hk]
  simp
theorem takes_M {s : O_GroveReader} {line nm w0 w1 w2 : Str} {q : Mm} (hs : pySplit line (" " : Str) = some [("male" : Str), nm, w0, w1, w2]) (h : s.own_head.isSome = true) (hn : NmOk nm) (h1 : mGet s.own_palms nm = none) (h2 : mGet s.own_males nm = none) (hp : s.own_palms ≠ []) (hl : s.own_males.length < 6)
    (hq : MaleOk q) (r0 : RdI w0 q.1) (r1 : RdI w1 q.2.1) (r2 : RdI w2 q.2.2) : F_GroveReader_takes s line = some (true, { s with own_males := s.own_males ++ [(nm, q)] }) := by
  have hne : ("male" : Str) ≠ ("grove" : Str) := by decide
  have hne2 : ("male" : Str) ≠ ("palm" : Str) := by decide
  have h3 : s.own_head.isNone = false := by cases hh : s.own_head with
    | none => rw [hh] at h; cases h
    | some _ => rfl
  have h4 : s.own_palms.isEmpty = false := by cases hh : s.own_palms with
    | nil => exact absurd hh hp
    | cons _ _ => rfl
  have e1 : mSet s.own_males nm q = some (s.own_males ++ [(nm, q)]) := by unfold mSet; rw [if_pos (by omega), mPut_new h2]
  rw [F_GroveReader_takes, hs, Option.bind_some, show pyIx [("male" : Str), nm, w0, w1, w2] 0 = some ("male" : Str) from rfl, Option.bind_some, if_neg (by simp [hne]), if_neg (by rw [h3]; simp),
    if_neg (by simp), show pyIx [("male" : Str), nm, w0, w1, w2] 1 = some nm from rfl, Option.bind_some, S_is_new hn h1 h2, Option.bind_some, Option.bind_some, Option.bind_some, if_neg (by simp), Option.bind_some, if_neg (by simp [hne2]), Option.bind_some, if_pos (by simp),
    show cutL [("male" : Str), nm, w0, w1, w2] (some 2) none = [w0, w1, w2] from rfl, S_male_in hq r0 r1 r2, Option.bind_some, Option.bind_some, if_neg (by rw [h4]; simp; omega), Option.bind_some, Option.bind_some, e1, Option.bind_some]
/-! the whole text -/
theorem S_grove {text : Str} {lines : List Str} (hs : pySplit text ("\n" : Str) = some lines) (st : Nat → O_GroveReader) (h0 : st 0 = ⟨none, [], []⟩) (hl : ∀ (i : Nat) (x : Str), lines[i]? = some x → F_GroveReader_takes (st i) x = some (true, st (i + 1))) (hp : (st lines.length).own_palms ≠ []) :
    F_Grove___init__ text = some ((), ⟨text, (st lines.length).own_head, (st lines.length).own_palms, (st lines.length).own_males⟩) := by
  have h4 : (st lines.length).own_palms.isEmpty = false := by cases hh : (st lines.length).own_palms with
    | nil => exact absurd hh hp
    | cons _ _ => rfl
  obtain ⟨s', e, hs'⟩ := forL_ex (body := fun (x11 : Int × Str) s10 => (F_GroveReader_takes s10 x11.2).bind fun p16 => if (!p16.1) = true then none else some p16.2) (fun i s => s = st i) (l := enumI lines) (k := 0) (s := ⟨none, [], []⟩) h0.symm fun i x s hx hi => by
    subst hi
    unfold enumI at hx
    rw [List.getElem?_map] at hx
    obtain ⟨p, hp, rfl⟩ := Option.map_eq_some_iff.mp hx
    rw [List.getElem?_zipIdx] at hp
    obtain ⟨y, hy, rfl⟩ := Option.map_eq_some_iff.mp hp
    refine ⟨_, ?_, rfl⟩
    show (F_GroveReader_takes (st (0 + i)) y).bind _ = _
    rw [Nat.zero_add, hl i y hy]
    rfl
  have hlen : (enumI lines).length = lines.length := by simp [enumI]
  rw [hlen, Nat.zero_add] at hs'
  subst hs'
  rw [F_Grove___init__, if_neg (by simp), F_GroveReader___init__, Option.bind_some, hs, Option.bind_some, e, Option.bind_some, if_neg (by rw [h4]; simp)]

end K92

set_option Elab.async false
set_option linter.all false
set_option maxRecDepth 100000
set_option maxHeartbeats 4000000
set_option autoImplicit false
namespace K92
open PySem L2 Dm StX PyProof.Rows
/-! a grove's text, and the grove of it -/
theorem joinL_len {s : Nat} {m : Nat} : ∀ {xs : List (List Nat)}, (∀ x ∈ xs, x.length ≤ m) → (TL.joinL [s] xs).length ≤ (m + 1) * xs.length
  | [], _ => by simp [TL.joinL]
  | [p], h => by simp [TL.joinL]; have := h p (by simp); omega
  | p :: q :: r, h => by
    have ih := joinL_len (s := s) (xs := q :: r) fun x hx => h x (List.mem_cons_of_mem _ hx)
    have h1 := h p (by simp)
    simp only [TL.joinL, List.length_append, List.length_cons] at ih ⊢
    simp only [List.length_nil] at ih ⊢
    rw [Nat.mul_add]
    have : (m + 1) * (r.length + 1) = (m + 1) * (r.length + 1) := rfl
    omega
theorem tl_len (x : Str) : x.length = (TL.tl x).length := TL.len_tl x
theorem join_len {c : Str} {s m : Nat} {ws : List Str} (hc : TL.tl c = [s]) (h : ∀ w ∈ ws, w.length ≤ m) : (Txt.join c ws).length ≤ (m + 1) * ws.length := by
  rw [tl_len, TL.join_eq, TL.tl_join, hc]
  have := joinL_len (s := s) (m := m) (xs := ws.map TL.tl) fun x hx => by
    obtain ⟨z, hz, rfl⟩ := List.mem_map.mp hx
    rw [← tl_len]; exact h z hz
  rwa [List.length_map] at this
theorem split_sp {ws : List Str} (hne : ws ≠ []) (h : ∀ w ∈ ws, (32 : Nat) ∉ TL.tl w) (hl : ∀ w ∈ ws, w.length ≤ 8) (hn : ws.length ≤ 100) : pySplit (Txt.join " " ws) (" " : Str) = some ws := by
  have e := TL.split_join (y := " ") (s := 32) (S := []) (parts := ws) rfl (by decide +kernel) hne h
  have := join_len (c := " ") (s := 32) (m := 8) rfl hl
  unfold pySplit
  rw [if_pos ⟨by decide, by omega⟩, e]
theorem split_nl {ws : List Str} (hne : ws ≠ []) (h : ∀ w ∈ ws, (10 : Nat) ∉ TL.tl w) (hl : ∀ w ∈ ws, w.length ≤ 100) (hn : ws.length ≤ 100) : pySplit (Txt.join "\n" ws) ("\n" : Str) = some ws := by
  have e := TL.split_join (y := "\n") (s := 10) (S := []) (parts := ws) rfl (by decide +kernel) hne h
  have := join_len (c := "\n") (s := 10) (m := 100) rfl hl
  unfold pySplit
  rw [if_pos ⟨by decide, by omega⟩, e]
def headL (a b : Int) : Str := Txt.join " " [("grove" : Str), num a, num b]
def palmL (x : Str × Pm) : Str := Txt.join " " [("palm" : Str), x.1, num x.2.1, num x.2.2.1, num x.2.2.2.1, x.2.2.2.2.1, num x.2.2.2.2.2]
def maleL (x : Str × Mm) : Str := Txt.join " " [("male" : Str), x.1, num x.2.1, num x.2.2.1, num x.2.2.2]
def gText (a b : Int) (ps : List (Str × Pm)) (ms : List (Str × Mm)) : Str := Txt.join "\n" (headL a b :: (ps.map palmL ++ ms.map maleL))
structure GrOk (g : O_Grove) (a b : Int) : Prop where
  hd : g.own_head = some (a, b)
  ha : 1 ≤ a ∧ a ≤ 3
  hb : 1 ≤ b ∧ b ≤ 6
  nd : ((g.own_palms.map Prod.fst) ++ (g.own_males.map Prod.fst)).Nodup
  ne : g.own_palms ≠ []
  l1 : g.own_palms.length ≤ 12
  l2 : g.own_males.length ≤ 6
  pn : ∀ x ∈ g.own_palms, NmOk x.1 ∧ PalmOk x.2
  mn : ∀ x ∈ g.own_males, NmOk x.1 ∧ MaleOk x.2
theorem nm_free {x : Str} (h : NmOk x) : (32 : Nat) ∉ TL.tl x ∧ (10 : Nat) ∉ TL.tl x := by
  have h1 : ∀ c ∈ ("abcdefghijklmnopqrstuvwxyz" : Str).cps.toList, 48 ≤ c := by decide
  have h2 : ∀ c ∈ ("0123456789" : Str).cps.toList, 48 ≤ c := by decide
  have h3 : ∀ c ∈ TL.tl x, 48 ≤ c := fun c hc => (h.2.2 c hc).elim (h1 c) (h2 c)
  exact ⟨fun z => absurd (h3 _ z) (by decide), fun z => absurd (h3 _ z) (by decide)⟩
theorem pat_free {x : Str} (h : PatOk x) : (32 : Nat) ∉ TL.tl x ∧ (10 : Nat) ∉ TL.tl x := by
  have h2 : ∀ c ∈ ("01" : Str).cps.toList, 48 ≤ c := by decide
  have h3 : ∀ c ∈ TL.tl x, 48 ≤ c := fun c hc => h2 c (h.2.2.1 c hc)
  exact ⟨fun z => absurd (h3 _ z) (by decide), fun z => absurd (h3 _ z) (by decide)⟩
theorem num_fr {n : Int} (h0 : 0 ≤ n) (h1 : n < 1000) : (32 : Nat) ∉ TL.tl (num n) ∧ (10 : Nat) ∉ TL.tl (num n) := by
  have h := num_free h0 h1
  exact ⟨fun z => absurd (h _ z).1 (by decide), fun z => absurd (h _ z).1 (by decide)⟩
theorem num_l8 {n : Int} (h0 : 0 ≤ n) (h1 : n < 1000) : (num n).length ≤ 8 := by have := (rdN h0 h1).2; omega
theorem join_free {ws : List Str} (h : ∀ w ∈ ws, (10 : Nat) ∉ TL.tl w) : (10 : Nat) ∉ TL.tl (Txt.join " " ws) := by
  rw [TL.join_eq, TL.tl_join, show TL.tl (" " : Str) = [32] from rfl]
  have : ∀ xs : List (List Nat), (∀ w ∈ xs, (10 : Nat) ∉ w) → (10 : Nat) ∉ TL.joinL [32] xs := by
    intro xs
    induction xs with
    | nil => intro _; simp [TL.joinL]
    | cons x xs ih =>
      intro hx
      cases xs with
      | nil => simpa [TL.joinL] using hx x (by simp)
      | cons y ys =>
        simp only [TL.joinL, List.mem_append, not_or]
        exact ⟨hx x (by simp), by simp, ih fun w hw => hx w (List.mem_cons_of_mem _ hw)⟩
  refine this _ fun w hw => ?_
  obtain ⟨z, hz, rfl⟩ := List.mem_map.mp hw
  exact h z hz
theorem words_palm {x : Str × Pm} (h : NmOk x.1 ∧ PalmOk x.2) : ∀ w ∈ [("palm" : Str), x.1, num x.2.1, num x.2.2.1, num x.2.2.2.1, x.2.2.2.2.1, num x.2.2.2.2.2], (32 : Nat) ∉ TL.tl w ∧ (10 : Nat) ∉ TL.tl w ∧ w.length ≤ 8 := by
  obtain ⟨hn, ⟨he, ho, ht, hot, hp, hnn⟩⟩ := h
  intro w hw
  simp only [List.mem_cons, List.not_mem_nil, or_false] at hw
  rcases hw with rfl | rfl | rfl | rfl | rfl | rfl | rfl
  · decide
  · exact ⟨(nm_free hn).1, (nm_free hn).2, hn.1⟩
  · exact ⟨(num_fr (by omega) (by omega)).1, (num_fr (by omega) (by omega)).2, num_l8 (by omega) (by omega)⟩
  · exact ⟨(num_fr (by omega) (by omega)).1, (num_fr (by omega) (by omega)).2, num_l8 (by omega) (by omega)⟩
  · exact ⟨(num_fr (by omega) (by omega)).1, (num_fr (by omega) (by omega)).2, num_l8 (by omega) (by omega)⟩
  · exact ⟨(pat_free hp).1, (pat_free hp).2, by have := hp.2.1; omega⟩
  · exact ⟨(num_fr (by omega) (by omega)).1, (num_fr (by omega) (by omega)).2, num_l8 (by omega) (by omega)⟩
theorem words_male {x : Str × Mm} (h : NmOk x.1 ∧ MaleOk x.2) : ∀ w ∈ [("male" : Str), x.1, num x.2.1, num x.2.2.1, num x.2.2.2], (32 : Nat) ∉ TL.tl w ∧ (10 : Nat) ∉ TL.tl w ∧ w.length ≤ 8 := by
  obtain ⟨hn, ⟨ho, hl, hk⟩⟩ := h
  intro w hw
  simp only [List.mem_cons, List.not_mem_nil, or_false] at hw
  rcases hw with rfl | rfl | rfl | rfl | rfl
  · decide
  · exact ⟨(nm_free hn).1, (nm_free hn).2, hn.1⟩
  · exact ⟨(num_fr (by omega) (by omega)).1, (num_fr (by omega) (by omega)).2, num_l8 (by omega) (by omega)⟩
  · exact ⟨(num_fr (by omega) (by omega)).1, (num_fr (by omega) (by omega)).2, num_l8 (by omega) (by omega)⟩
  · exact ⟨(num_fr (by omega) (by omega)).1, (num_fr (by omega) (by omega)).2, num_l8 (by omega) (by omega)⟩
theorem words_head {a b : Int} (ha : 1 ≤ a ∧ a ≤ 3) (hb : 1 ≤ b ∧ b ≤ 6) : ∀ w ∈ [("grove" : Str), num a, num b], (32 : Nat) ∉ TL.tl w ∧ (10 : Nat) ∉ TL.tl w ∧ w.length ≤ 8 := by
  intro w hw
  simp only [List.mem_cons, List.not_mem_nil, or_false] at hw
  rcases hw with rfl | rfl | rfl
  · decide
  · exact ⟨(num_fr (by omega) (by omega)).1, (num_fr (by omega) (by omega)).2, num_l8 (by omega) (by omega)⟩
  · exact ⟨(num_fr (by omega) (by omega)).1, (num_fr (by omega) (by omega)).2, num_l8 (by omega) (by omega)⟩
theorem mGet_none {α β : Type} [DecidableEq α] : ∀ {m : List (α × β)} {k : α}, k ∉ m.map Prod.fst → mGet m k = none
  | [], _, _ => rfl
  | p :: m, k, h => by
    simp only [List.map_cons, List.mem_cons, not_or] at h
    unfold mGet
    rw [if_neg fun z => h.1 z.symm]
    exact mGet_none h.2
theorem take_snoc {α : Type} {l : List α} {i : Nat} {x : α} (h : l[i]? = some x) : l.take (i + 1) = l.take i ++ [x] := by rw [List.take_add_one, h]; rfl
/-- the state behind so many lines -/
def stG (g : O_Grove) : Nat → O_GroveReader
  | 0 => ⟨none, [], []⟩
  | n + 1 => ⟨g.own_head, g.own_palms.take n, g.own_males.take (n - g.own_palms.length)⟩
theorem S_make {g : O_Grove} {a b : Int} (h : GrOk g a b) (ht : g.own_text = gText a b g.own_palms g.own_males) : F_Grove___init__ g.own_text = some ((), g) := by
  obtain ⟨hd, ha, hb, nd, ne, l1, l2, pn, mn⟩ := h
  obtain ⟨text, hd0, ps, ms⟩ := g
  simp only at *
  subst hd0
  have hw : ∀ w ∈ headL a b :: (ps.map palmL ++ ms.map maleL), (10 : Nat) ∉ TL.tl w ∧ w.length ≤ 100 := by
    intro w hw
    rcases List.mem_cons.mp hw with rfl | hw
    · have hh := words_head ha hb
      have hj := join_len (c := " ") (s := 32) (m := 8) (ws := [("grove" : Str), num a, num b]) rfl fun w hw => (hh w hw).2.2
      refine ⟨join_free fun w hw => (hh w hw).2.1, ?_⟩
      simp only [List.length_cons, List.length_nil] at hj
      show (Txt.join " " _).length ≤ 100
      omega
    · rcases List.mem_append.mp hw with hw | hw
      · obtain ⟨x, hx, rfl⟩ := List.mem_map.mp hw
        have hh := words_palm (pn x hx)
        have hj := join_len (c := " ") (s := 32) (m := 8) (ws := [("palm" : Str), x.1, num x.2.1, num x.2.2.1, num x.2.2.2.1, x.2.2.2.2.1, num x.2.2.2.2.2]) rfl fun w hw => (hh w hw).2.2
        refine ⟨join_free fun w hw => (hh w hw).2.1, ?_⟩
        simp only [List.length_cons, List.length_nil] at hj
        show (Txt.join " " _).length ≤ 100
        omega
      · obtain ⟨x, hx, rfl⟩ := List.mem_map.mp hw
        have hh := words_male (mn x hx)
        have hj := join_len (c := " ") (s := 32) (m := 8) (ws := [("male" : Str), x.1, num x.2.1, num x.2.2.1, num x.2.2.2]) rfl fun w hw => (hh w hw).2.2
        refine ⟨join_free fun w hw => (hh w hw).2.1, ?_⟩
        simp only [List.length_cons, List.length_nil] at hj
        show (Txt.join " " _).length ≤ 100
        omega
  have hs : pySplit text ("\n" : Str) = some (headL a b :: (ps.map palmL ++ ms.map maleL)) := by
    rw [ht]
    exact split_nl (by simp) (fun w hh => (hw w hh).1) (fun w hh => (hw w hh).2) (by simp; omega)
  have hlen : (headL a b :: (ps.map palmL ++ ms.map maleL)).length = ps.length + ms.length + 1 := by simp
  have nd1 := List.nodup_append.mp nd
  have := S_grove hs (stG ⟨text, some (a, b), ps, ms⟩) rfl (fun i x hx => ?_) ?_
  · rw [hlen] at this
    rw [this]
    show some ((), (⟨text, some (a, b), ps.take (ps.length + ms.length), ms.take (ps.length + ms.length - ps.length)⟩ : O_Grove)) = _
    rw [List.take_of_length_le (by omega), List.take_of_length_le (by omega)]
  · cases i with
    | zero =>
      have hx : x = headL a b := by simpa using hx.symm
      subst hx
      have hh := words_head ha hb
      have key := takes_H (s := ⟨none, [], []⟩) (line := headL a b) (w1 := num a) (w2 := num b) (a := a) (b := b) (split_sp (by simp) (fun w hw => (hh w hw).1) (fun w hw => (hh w hw).2.2) (by simp)) rfl (rdN (by omega) (by omega)).1 (rdN (by omega) (by omega)).1 ha hb
      show F_GroveReader_takes ⟨none, [], []⟩ (headL a b) = _
      rw [key]
      show some (true, (⟨some (a, b), [], []⟩ : O_GroveReader)) = some (true, ⟨some (a, b), ps.take 0, ms.take (0 - ps.length)⟩)
      simp
    | succ i =>
      rw [List.getElem?_cons_succ] at hx
      rcases Nat.lt_or_ge i ps.length with hi | hi
      · rw [List.getElem?_append_left (by simpa using hi), List.getElem?_map] at hx
        obtain ⟨q, hq, rfl⟩ := Option.map_eq_some_iff.mp hx
        have hm := pn q (List.mem_of_getElem? hq)
        have hh := words_palm hm
        obtain ⟨hn, hp⟩ := hm
        have hnew : q.1 ∉ (ps.take i).map Prod.fst := by
          intro hc
          obtain ⟨r, hr, e⟩ := List.mem_map.mp hc
          obtain ⟨j, hj, e2⟩ := List.getElem_of_mem hr
          have hji : j < i := by simp at hj; omega
          have e3 : (ps.map Prod.fst)[j]? = some q.1 := by
            rw [List.getElem?_map, List.getElem?_eq_getElem (by omega)]
            rw [List.getElem_take] at e2
            rw [e2, ← e]; rfl
          have e4 : (ps.map Prod.fst)[i]? = some q.1 := by rw [List.getElem?_map, hq]; rfl
          have l1' : j < (ps.map Prod.fst).length := by simp; omega
          have l2' : i < (ps.map Prod.fst).length := by simp; omega
          have e5 : (ps.map Prod.fst)[j] = (ps.map Prod.fst)[i] := by
            rw [List.getElem?_eq_getElem l1'] at e3
            rw [List.getElem?_eq_getElem l2'] at e4
            rw [Option.some.inj e3, Option.some.inj e4]
          exact List.pairwise_iff_getElem.mp nd1.1 j i l1' l2' hji e5
        obtain ⟨he, ho, ht', hot, hpp, hnn⟩ := hp
        have key := takes_P (s := ⟨some (a, b), ps.take i, ms.take (i - ps.length)⟩) (line := palmL q) (nm := q.1) (q := q.2) (split_sp (by simp) (fun w hw => (hh w hw).1) (fun w hw => (hh w hw).2.2) (by simp)) rfl hn (mGet_none hnew) (by
          show ms.take (i - ps.length) = []
          rw [show i - ps.length = 0 by omega]; rfl) (by
          show (ps.take i).length < 12
          rw [List.length_take]; omega) ⟨he, ho, ht', hot, hpp, hnn⟩ (rdN (by omega) (by omega)).1 (rdN (by omega) (by omega)).1 (rdN (by omega) (by omega)).1 (rdN (by omega) (by omega)).1
        show F_GroveReader_takes ⟨some (a, b), ps.take i, ms.take (i - ps.length)⟩ (palmL q) = some (true, ⟨some (a, b), ps.take (i + 1), ms.take (i + 1 - ps.length)⟩)
        rw [key, take_snoc hq, show i + 1 - ps.length = i - ps.length by omega]
      · rw [List.getElem?_append_right (by simpa using hi), List.getElem?_map, List.length_map] at hx
        obtain ⟨q, hq, rfl⟩ := Option.map_eq_some_iff.mp hx
        have hm := mn q (List.mem_of_getElem? hq)
        have hh := words_male hm
        obtain ⟨hn, ⟨ho, hl, hk⟩⟩ := hm
        have hqm : q.1 ∈ ms.map Prod.fst := List.mem_map.mpr ⟨q, List.mem_of_getElem? hq, rfl⟩
        have hnp : q.1 ∉ ps.map Prod.fst := fun hc => nd1.2.2 _ hc _ hqm rfl
        have hnew : q.1 ∉ (ms.take (i - ps.length)).map Prod.fst := by
          intro hc
          obtain ⟨r, hr, e⟩ := List.mem_map.mp hc
          obtain ⟨j, hj, e2⟩ := List.getElem_of_mem hr
          have hil := (List.getElem?_eq_some_iff.mp hq).1
          have hji : j < i - ps.length := by simp at hj; omega
          have e3 : (ms.map Prod.fst)[j]? = some q.1 := by
            rw [List.getElem?_map, List.getElem?_eq_getElem (by omega)]
            rw [List.getElem_take] at e2
            rw [e2, ← e]; rfl
          have e4 : (ms.map Prod.fst)[i - ps.length]? = some q.1 := by rw [List.getElem?_map, hq]; rfl
          have l1' : j < (ms.map Prod.fst).length := by simp; omega
          have l2' : i - ps.length < (ms.map Prod.fst).length := by simp; omega
          have e5 : (ms.map Prod.fst)[j] = (ms.map Prod.fst)[i - ps.length] := by
            rw [List.getElem?_eq_getElem l1'] at e3
            rw [List.getElem?_eq_getElem l2'] at e4
            rw [Option.some.inj e3, Option.some.inj e4]
          exact List.pairwise_iff_getElem.mp nd1.2.1 j (i - ps.length) l1' l2' hji e5
        have htk : ps.take i = ps := List.take_of_length_le hi
        have key := takes_M (s := ⟨some (a, b), ps.take i, ms.take (i - ps.length)⟩) (line := maleL q) (nm := q.1) (q := q.2) (split_sp (by simp) (fun w hw => (hh w hw).1) (fun w hw => (hh w hw).2.2) (by simp)) rfl hn (mGet_none (by rw [htk]; exact hnp)) (mGet_none hnew) (by
          show ps.take i ≠ []
          rw [htk]; exact ne) (by
          have hil := (List.getElem?_eq_some_iff.mp hq).1
          show (ms.take (i - ps.length)).length < 6
          rw [List.length_take]; omega) ⟨ho, hl, hk⟩ (rdN (by omega) (by omega)).1 (rdN (by omega) (by omega)).1 (rdN (by omega) (by omega)).1
        show F_GroveReader_takes ⟨some (a, b), ps.take i, ms.take (i - ps.length)⟩ (maleL q) = some (true, ⟨some (a, b), ps.take (i + 1), ms.take (i + 1 - ps.length)⟩)
        rw [key, show i + 1 - ps.length = (i - ps.length) + 1 by omega, take_snoc hq, htk, List.take_of_length_le (show ps.length ≤ i + 1 by omega)]
  · rw [hlen]
    show ps.take (ps.length + ms.length) ≠ []
    rw [List.take_of_length_le (by omega)]; exact ne

end K92

set_option Elab.async false
set_option linter.all false
set_option maxRecDepth 100000
set_option maxHeartbeats 4000000
set_option autoImplicit false
namespace K92
open PySem L2 Dm StX PyProof.Rows
/-! a grove, read -/
theorem mGet_mem {α β : Type} [DecidableEq α] : ∀ {m : List (α × β)} {q : α × β}, (m.map Prod.fst).Nodup → q ∈ m → mGet m q.1 = some q.2
  | p :: m, q, hn, h => by
    rw [List.map_cons, List.nodup_cons] at hn
    unfold mGet
    rcases List.mem_cons.mp h with rfl | h
    · rw [if_pos rfl]
    · rw [if_neg fun z => hn.1 (by rw [z]; exact List.mem_map.mpr ⟨q, h, rfl⟩)]
      exact mGet_mem hn.2 h
theorem ix0 {α : Type} {x : α} {xs : List α} : pyIx (x :: xs) 0 = some x := ix_nat (i := 0) rfl
section
variable {g : O_Grove} {a b : Int} {q : Str × Pm} {y : Int}
abbrev pat (q : Str × Pm) : Str := q.2.2.2.2.1
abbrev cnt (q : Str × Pm) : Int := q.2.2.2.2.2
theorem GrOk.nd1 (h : GrOk g a b) : (g.own_palms.map Prod.fst).Nodup := (List.nodup_append.mp h.nd).1
theorem GrOk.patOk (h : GrOk g a b) (hq : q ∈ g.own_palms) : PatOk (pat q) := (h.pn q hq).2.hp
theorem S_years_of (h : GrOk g a b) (hq : q ∈ g.own_palms) : F_Grove_years_of g q.1 = some (pat q) := by
  rw [F_Grove_years_of, mGet_mem h.nd1 hq]; rfl
theorem S_dates_of (h : GrOk g a b) (hq : q ∈ g.own_palms) : F_Grove_dates_of g q.1 = some (cnt q) := by
  rw [F_Grove_dates_of, mGet_mem h.nd1 hq]; rfl
def bit (p : Str) (y : Int) : Bool := decide (p.cps.toList.getD (y % (p.length : Nat)).toNat 0 = 49)
theorem atI_mod {p : Str} {y : Int} (h : 0 < p.length) : atI p.cps.toList (y % (p.length : Nat)) = some (p.cps.toList.getD (y % (p.length : Nat)).toNat 0) := by
  have hl : (0 : Int) < (p.length : Nat) := by omega
  have m1 := Int.emod_nonneg y (Int.ne_of_gt hl)
  have m2 := Int.emod_lt_of_pos y hl
  obtain ⟨n, hn⟩ := Int.eq_ofNat_of_zero_le m1
  rw [hn]
  refine atI_nat ?_
  have : n < p.cps.toList.length := by
    have : p.cps.toList.length = p.length := by simp [Str.length]
    omega
  rw [List.getD_eq_getElem?_getD, show ((n : Nat) : Int).toNat = n by omega, List.getElem?_eq_getElem this]; rfl
theorem sign_one {p : Str} {y : Int} (h : PatOk p) : pyIxS p (y % (p.length : Nat)) = some ⟨#[p.cps.toList.getD (y % (p.length : Nat)).toNat 0]⟩ := by
  have h1 := h.1; have h2 := h.2.1
  unfold pyIxS; rw [if_pos (by omega), atI_mod h1]; rfl
theorem one_is {c : Nat} : decide ((⟨#[c]⟩ : Str) = ("1" : Str)) = decide (c = 49) := by
  rw [one_eq]
  rw [decide_eq_decide]
  constructor
  · intro e
    have := congrArg (fun s : Str => s.cps.toList) e
    simpa using this
  · rintro rfl; rfl
theorem S_bears_in (h : GrOk g a b) (hq : q ∈ g.own_palms) : F_bears_in g q.1 y = some (bit (pat q) y) := by
  have hp := h.patOk hq
  have h1 := hp.1; have h2 := hp.2.1
  rw [F_bears_in, S_years_of h hq, Option.bind_some, lenS_ok (by omega), Option.bind_some, mod_ok (by omega), Option.bind_some, sign_one hp, Option.bind_some, one_is]; rfl
/-- the baskets of a year -/
def bask (g : O_Grove) (y : Int) : Int := ((g.own_palms.filter fun q => bit (pat q) y).map cnt).sum
theorem lcM_of {α β γ : Type} {c : α → Option Bool} {v : α → Option β} (n : γ → α) (p : γ → Bool) (f : γ → β) {l : List γ} (hl : l.length ≤ 90000) (hc : ∀ x ∈ l, c (n x) = some (p x)) (hv : ∀ x ∈ l, p x = true → v (n x) = some (f x)) : lcM c v (l.map n) = some ((l.filter p).map f) := by
  have e : lcM c v (l.map n) = lcM (fun x => c (n x)) (fun x => v (n x)) l := by
    unfold lcM
    rw [List.length_map]
    congr 1
    clear hl hc hv
    induction l with
    | nil => rfl
    | cons x xs ih => rw [List.map_cons, lcP, lcP, ih]
  rw [e]; exact lcM_eq p f hl hc hv
theorem lcM_ofm {α β γ : Type} {v : α → Option β} (n : γ → α) (f : γ → β) {l : List γ} (hl : l.length ≤ 90000) (hv : ∀ x ∈ l, v (n x) = some (f x)) : lcM (fun _ => some true) v (l.map n) = some (l.map f) := by
  rw [lcM_of n (fun _ => true) f hl (fun _ _ => rfl) fun x hx _ => hv x hx, List.filter_eq_self.mpr fun _ _ => rfl]
theorem S_baskets_in (h : GrOk g a b) : F_baskets_in g y = some (bask g y) := by
  have hl := h.l1
  rw [F_baskets_in, show F_Grove_palm_names g = some (g.own_palms.map Prod.fst) from rfl, Option.bind_some,
    lcM_of Prod.fst (fun q => bit (pat q) y) cnt (by omega) (fun q hq => by rw [S_bears_in h hq]; rfl) fun q hq _ => by rw [S_dates_of h hq]; rfl]
  rfl
theorem S_check_grove : F_check_grove g = some () := rfl
theorem S_baskets (h : GrOk g a b) (hy : 0 ≤ y ∧ y ≤ 9999) : F_baskets g y = some (bask g y) := by
  rw [F_baskets, S_check_grove, Option.bind_some, S_check_year hy, Option.bind_some, S_baskets_in h]; rfl
theorem rng60 : pyRng 60 = some (rngI 60) := rng_ok (by unfold Sm; omega) (by omega) (by omega)
theorem l60 : (rngI 60).length ≤ 90000 := by rw [rngI_len]; omega
def sums (g : O_Grove) : List Int := (rngI 60).map (bask g)
theorem S_sums_of (h : GrOk g a b) : F_sums_of g = some (sums g) := by
  rw [F_sums_of, rng60, Option.bind_some, lcM_map (bask g) l60 fun y _ => by rw [S_baskets_in h]; rfl]; rfl
theorem sums_ne (g : O_Grove) : sums g ≠ [] := by
  intro e
  have := congrArg List.length e
  simp [sums, rngI] at this
theorem S_most_baskets (h : GrOk g a b) : F_most_baskets g = some (mxL (sums g), (((sums g).idxOf (mxL (sums g)) : Nat) : Int)) := by
  rw [F_most_baskets, S_check_grove, Option.bind_some, S_sums_of h, Option.bind_some, max_ok (sums_ne g), Option.bind_some, Option.bind_some, index_ok (mxL_mem (sums_ne g))]; rfl
theorem S_least_baskets (h : GrOk g a b) : F_least_baskets g = some (mnL (sums g), (((sums g).idxOf (mnL (sums g)) : Nat) : Int)) := by
  rw [F_least_baskets, S_check_grove, Option.bind_some, S_sums_of h, Option.bind_some, min_ok (sums_ne g), Option.bind_some, Option.bind_some, index_ok (mnL_mem (sums_ne g))]; rfl
/-! years of a lot -/
def bitsP (p : Str) : List Bool := (rngI 60).map fun y => bit p y
theorem S_bits_of (h : GrOk g a b) (hq : q ∈ g.own_palms) : F_bits_of g q.1 = some (bitsP (pat q)) := by
  rw [F_bits_of, rng60, Option.bind_some, lcM_map (fun y => bit (pat q) y) l60 fun y _ => by rw [S_bears_in h hq]; rfl]; rfl
theorem bits_at {p : Str} {y : Int} (hy : y ∈ rngI 60) : pyIx (bitsP p) y = some (bit p y) := by
  have hy := mem_rngI.mp hy
  obtain ⟨n, rfl⟩ := Int.eq_ofNat_of_zero_le hy.1
  refine ix_nat ?_
  rw [bitsP, rngI, List.map_map, List.getElem?_map, List.getElem?_range (by omega)]; rfl
def yearsAll (qs : List (Str × Pm)) : List Int := (rngI 60).filter fun y => qs.all fun q => bit (pat q) y
def yearsNo (qs : List (Str × Pm)) : List Int := (rngI 60).filter fun y => !qs.any fun q => bit (pat q) y
theorem rows_ok {qs : List (Str × Pm)} (hl : qs.length ≤ 100) {y : Int} (hy : y ∈ rngI 60) : lcM (fun _ => some true) (fun x7 => (pyIx x7 y).bind fun v8 => some v8) (qs.map fun q => bitsP (pat q)) = some (qs.map fun q => bit (pat q) y) :=
  lcM_ofm (fun q => bitsP (pat q)) (fun q => bit (pat q) y) (by omega) fun q _ => by rw [bits_at hy]; rfl
theorem S_years_of_lot (h : GrOk g a b) {qs : List (Str × Pm)} (hq : ∀ q ∈ qs, q ∈ g.own_palms) (hl : qs.length ≤ 100) (c : Bool) : F_years_of_lot g (c, qs.map Prod.fst) = some (yearsAll qs) := by
  rw [F_years_of_lot, lcM_ofm Prod.fst (fun q => bitsP (pat q)) (by omega) fun q hh => by rw [S_bits_of h (hq q hh)]; rfl]
  rw [Option.bind_some, rng60, Option.bind_some, lcM_filter (fun y => qs.all fun q => bit (pat q) y) l60 fun y hy => by rw [rows_ok hl hy, Option.bind_some, List.all_map]; rfl]
  rfl
/-- some lap there is -/
theorem S_lap_of {l : List Int} (h : ∀ y ∈ l, 0 ≤ y ∧ y < 60) (hl : l.length ≤ 60) : ∃ n, F_lap_of l = some n := by
  have e1 : pyRng2 1 (60 + 1) = some (rngI2 1 (60 + 1)) := by unfold pyRng2; rw [if_pos (by omega)]
  have hl2 : (rngI2 1 (60 + 1)).length ≤ 90000 := by simp [rngI2]
  have pos : ∀ x ∈ rngI2 1 (60 + 1), 0 < x := fun x hx => by
    obtain ⟨i, _, rfl⟩ := List.mem_map.mp hx
    omega
  have in60 : (60 : Int) ∈ rngI2 1 (60 + 1) := by decide
  rw [F_lap_of, e1, Option.bind_some, lcM_filter (fun x => decide (60 % x = 0)) hl2 fun x hx => by rw [mod_ok (pos x hx)]; rfl, Option.bind_some]
  have e2 : lcM (fun x6 => (lcM (fun x7 => some true) (fun x7 => (pyMod (x7 + x6) 60).bind fun v8 => some (decide (v8 ∈ l))) l).bind fun l9 => some (l9.all id)) (fun x6 => some x6) ((rngI2 1 (60 + 1)).filter fun x => decide (60 % x = 0)) = some (((rngI2 1 (60 + 1)).filter fun x => decide (60 % x = 0)).filter fun x => l.all fun y => decide ((y + x) % 60 ∈ l)) :=
    lcM_filter _ (Nat.le_trans (List.length_filter_le _ _) hl2) fun x hx => by
      rw [lcM_map (fun y => decide ((y + x) % 60 ∈ l)) (by omega) fun y _ => by rw [mod_ok (by omega)]; rfl, Option.bind_some, List.all_map]; rfl
  rw [e2, Option.bind_some]
  have hm : (60 : Int) ∈ (((rngI2 1 (60 + 1)).filter fun x => decide (60 % x = 0)).filter fun x => l.all fun y => decide ((y + x) % 60 ∈ l)) := by
    refine List.mem_filter.mpr ⟨List.mem_filter.mpr ⟨in60, by decide⟩, List.all_eq_true.mpr fun y hy => decide_eq_true ?_⟩
    have := h y hy
    rw [Int.add_emod_right, Int.emod_eq_of_lt this.1 this.2]; exact hy
  generalize (((rngI2 1 (60 + 1)).filter fun x => decide (60 % x = 0)).filter fun x => l.all fun y => decide ((y + x) % 60 ∈ l)) = L at hm
  cases L with
  | nil => simp at hm
  | cons x xs => exact ⟨x, by rw [ix0]; rfl⟩
/-- the lots -/
def lotsOf : List Str → List (List Str) → List (List Str)
  | [], rows => rows
  | n :: ns, rows => lotsOf ns (rows ++ rows.map (· ++ [n]))
theorem S_lots {ns : List Str} (hl : ns.length ≤ 12) : ∃ L, F_lots_by_size ns = some L ∧ L.length ≤ 5000 ∧ ns ∈ L ∧ ∀ r ∈ L, r.Sublist ns := by
  obtain ⟨s', e, h1, h2, h3⟩ := forL_ex (body := fun (x6 : Str) (s5 : List (List Str)) => (lcM (fun x8 => some true) (fun x8 => (pySz (x8 ++ [x6])).bind fun v9 => some v9) s5).bind fun l10 => (pyCat s5 l10).bind fun v12 => some v12)
    (fun i s => s.length = 2 ^ i ∧ ns.take i ∈ s ∧ ∀ r ∈ s, r.Sublist (ns.take i)) (l := ns) (k := 0) (s := [[]]) ⟨rfl, by simp, by simp⟩ fun i x s hx ⟨k1, k2, k3⟩ => by
      rw [Nat.zero_add] at k1 k2 k3
      have hi : i < ns.length := (List.getElem?_eq_some_iff.mp hx).1
      have p1 : 2 ^ i ≤ 2 ^ 11 := Nat.pow_le_pow_right (by decide) (by omega)
      have p1 : s.length ≤ 2048 := by rw [k1]; exact p1
      have rl : ∀ r ∈ s, r.length ≤ 12 := fun r hr => Nat.le_trans (k3 r hr).length_le (by rw [List.length_take]; omega)
      refine ⟨s ++ s.map (· ++ [x]), ?_, ?_, ?_, ?_⟩
      · rw [lcM_map (fun r => r ++ [x]) (by omega) fun r hr => by
          have := rl r hr
          rw [sz_ok (by rw [List.length_append, List.length_singleton]; omega)]; rfl, Option.bind_some, cat_ok (by rw [List.length_map]; omega)]; rfl
      · rw [List.length_append, List.length_map, k1, show 0 + i + 1 = i + 1 by omega, Nat.pow_succ]; omega
      · rw [show 0 + i + 1 = i + 1 by omega, List.take_add_one, hx]
        exact List.mem_append_right _ (List.mem_map.mpr ⟨_, k2, rfl⟩)
      · rw [show 0 + i + 1 = i + 1 by omega, List.take_add_one, hx]
        intro r hr
        rcases List.mem_append.mp hr with hr | hr
        · exact (k3 r hr).trans (List.sublist_append_left _ _)
        · obtain ⟨r', hr', rfl⟩ := List.mem_map.mp hr
          exact (k3 r' hr').append (List.Sublist.refl _)
  rw [Nat.zero_add] at h1 h2 h3
  rw [List.take_length] at h2 h3
  have hp : (sortLen s').Perm s' := List.mergeSort_perm _ _
  refine ⟨sortLen s', by rw [F_lots_by_size, e]; rfl, ?_, hp.mem_iff.mpr h2, fun r hr => h3 r (hp.mem_iff.mp hr)⟩
  rw [hp.length_eq, h1]
  have : 2 ^ ns.length ≤ 2 ^ 12 := Nat.pow_le_pow_right (by decide) hl
  exact Nat.le_trans this (by decide)
theorem sub_names {ps : List (Str × Pm)} : ∀ {r : List Str}, r.Sublist (ps.map Prod.fst) → ∃ qs : List (Str × Pm), qs.Sublist ps ∧ r = qs.map Prod.fst := fun {r} h => by
  obtain ⟨qs, h1, h2⟩ := List.sublist_map_iff.mp h
  exact ⟨qs, h1, h2⟩
/-- what is told of years -/
theorem S_told_years (h : GrOk g a b) {f : O_Grove → Bool × List Str → Option (List Int)} {Y : List (Str × Pm) → List Int} (hf : ∀ (c : Bool) (qs : List (Str × Pm)), (∀ q ∈ qs, q ∈ g.own_palms) → qs.length ≤ 100 → f g (c, qs.map Prod.fst) = some (Y qs)) (hY : ∀ qs, ∀ y ∈ Y qs, 0 ≤ y ∧ y < 60) (hY2 : ∀ qs, (Y qs).length ≤ 60) (w : Str) :
    (∀ y0 ys, Y g.own_palms = y0 :: ys → ∃ n, F_told_years g f w = some (.tup [.str ("year" : Str), .int y0, .int n])) ∧ (Y g.own_palms = [] → ∃ r : List Str, F_told_years g f w = some (.tup [.str w, .tup (r.map .str)])) := by
  have hl := h.l1
  have e0 : F_Grove_palm_names g = some (g.own_palms.map Prod.fst) := rfl
  refine ⟨fun y0 ys e => ?_, fun e => ?_⟩
  · obtain ⟨n, hn⟩ := S_lap_of (l := y0 :: ys) (by rw [← e]; exact hY _) (by rw [← e]; exact hY2 _)
    refine ⟨n, ?_⟩
    rw [F_told_years, e0, Option.bind_some, hf true _ (fun _ z => z) (by omega), Option.bind_some, e, eq_li, Option.bind_some, if_pos (by simp), ix0, Option.bind_some, hn]; rfl
  · obtain ⟨L, h1, h2, h3, h4⟩ := S_lots (ns := g.own_palms.map Prod.fst) (by rw [List.length_map]; omega)
    have each : ∀ r ∈ L, ∃ qs : List (Str × Pm), (∀ q ∈ qs, q ∈ g.own_palms) ∧ qs.length ≤ 100 ∧ r = qs.map Prod.fst := fun r hr => by
      obtain ⟨qs, k1, k2⟩ := sub_names (h4 r hr)
      exact ⟨qs, fun q hq => k1.subset hq, by have := k1.length_le; omega, k2⟩
    have e2 : ∃ p : List Str → Bool, p (g.own_palms.map Prod.fst) = true ∧ ∀ r ∈ L, (fun x10 => (f g (false, x10)).bind fun v11 => (pyEq (D.lst (v11.map D.int)) (D.lst (([] : List Int).map D.int))).bind fun v12 => some v12) r = some (p r) := by
      refine ⟨fun r => (f g (false, r)) = some [], ?_, fun r hr => ?_⟩
      · show decide (f g (false, g.own_palms.map Prod.fst) = some []) = true
        rw [hf false _ (fun _ z => z) (by omega), e]; simp
      · obtain ⟨qs, k1, k2, rfl⟩ := each r hr
        show (f g (false, qs.map Prod.fst)).bind _ = some (decide (f g (false, qs.map Prod.fst) = some []))
        rw [hf false qs k1 k2, Option.bind_some, eq_li]; simp
    obtain ⟨p, hp1, hp2⟩ := e2
    have hm : (g.own_palms.map Prod.fst) ∈ L.filter p := List.mem_filter.mpr ⟨h3, hp1⟩
    have e3 := lcM_filter p (l := L) (by omega) hp2
    rw [F_told_years, e0, Option.bind_some, hf true _ (fun _ z => z) (by omega), Option.bind_some, e, eq_li, Option.bind_some, if_neg (by simp), h1, Option.bind_some, e3, Option.bind_some]
    generalize L.filter p = L2 at hm
    cases L2 with
    | nil => simp at hm
    | cons x xs => exact ⟨x, by rw [ix0]; rfl⟩
theorem years_bd {qs : List (Str × Pm)} : ∀ y ∈ yearsAll qs, 0 ≤ y ∧ y < 60 := fun y hy => mem_rngI.mp (List.mem_filter.mp hy).1
theorem yearsNo_bd {qs : List (Str × Pm)} : ∀ y ∈ yearsNo qs, 0 ≤ y ∧ y < 60 := fun y hy => mem_rngI.mp (List.mem_filter.mp hy).1
theorem years_len {qs : List (Str × Pm)} : (yearsAll qs).length ≤ 60 := Nat.le_trans (List.length_filter_le _ _) (by rw [rngI_len]; decide)
theorem yearsNo_len {qs : List (Str × Pm)} : (yearsNo qs).length ≤ 60 := Nat.le_trans (List.length_filter_le _ _) (by rw [rngI_len]; decide)
theorem S_all_bear (h : GrOk g a b) : (∀ y0 ys, yearsAll g.own_palms = y0 :: ys → ∃ n, F_all_bear g = some (.tup [.str ("year" : Str), .int y0, .int n])) ∧ (yearsAll g.own_palms = [] → ∃ r : List Str, F_all_bear g = some (.tup [.str ("never" : Str), .tup (r.map .str)])) := by
  obtain ⟨h1, h2⟩ := S_told_years h (f := F_years_of_lot) (Y := yearsAll) (fun c qs hq hl => S_years_of_lot h hq hl c) (fun _ => years_bd) (fun _ => years_len) ("never" : Str)
  refine ⟨fun y0 ys e => ?_, fun e => ?_⟩
  · obtain ⟨n, hn⟩ := h1 y0 ys e
    exact ⟨n, by rw [F_all_bear, S_check_grove, Option.bind_some, hn]; rfl⟩
  · obtain ⟨n, hn⟩ := h2 e
    exact ⟨n, by rw [F_all_bear, S_check_grove, Option.bind_some, hn]; rfl⟩
end

end K92

set_option Elab.async false
set_option linter.all false
set_option maxRecDepth 100000
set_option maxHeartbeats 4000000
set_option autoImplicit false
namespace K92
open PySem L2 Dm StX PyProof.Rows
/-! evening -/
section
variable {g : O_Grove} {a b : Int} {q : Str × Pm}
def lens (g : O_Grove) : List Int := g.own_palms.map fun q => ((pat q).length : Int)
theorem S_lengths_of (h : GrOk g a b) : F_lengths_of g = some (lens g) := by
  have hl := h.l1
  rw [F_lengths_of, show F_Grove_palm_names g = some (g.own_palms.map Prod.fst) from rfl, Option.bind_some, lcM_ofm Prod.fst (fun q => ((pat q).length : Int)) (by omega) fun q hq => by
    have hp := (h.patOk hq).2.1
    rw [S_years_of h hq, Option.bind_some, lenS_ok (by omega)]; rfl]
  rfl
def prodL (l : List Int) : Int := l.foldl (· * ·) 1
theorem prodL_snoc {l : List Int} {x : Int} : prodL (l ++ [x]) = prodL l * x := by simp [prodL, List.foldl_append]
theorem lens_bd (h : GrOk g a b) : ∀ x ∈ lens g, 1 ≤ x ∧ x ≤ 6 := fun x hx => by
  obtain ⟨q, hq, rfl⟩ := List.mem_map.mp hx
  have := h.patOk hq
  have h1 := this.1; have h2 := this.2.1
  omega
theorem lens_len (h : GrOk g a b) : (lens g).length ≤ 12 := by have := h.l1; simpa [lens] using this
theorem prodL_bd : ∀ (n : Nat) {l : List Int}, (∀ x ∈ l, 1 ≤ x ∧ x ≤ 6) → 1 ≤ prodL (l.take n) ∧ prodL (l.take n) ≤ 6 ^ n
  | 0, l, h => by simp [prodL]
  | n + 1, l, h => by
    have ih := prodL_bd n h
    rcases Nat.lt_or_ge n l.length with z | z
    · rw [take_snoc (List.getElem?_eq_getElem z), prodL_snoc]
      have hx := h _ (List.getElem_mem z)
      generalize l[n] = x at hx
      refine ⟨?_, ?_⟩
      · have := Int.mul_le_mul ih.1 hx.1 (by omega) (by omega)
        omega
      · rw [Int.pow_succ]
        exact Int.mul_le_mul ih.2 hx.2 (by omega) (by omega)
    · rw [List.take_of_length_le (by omega)]
      rw [List.take_of_length_le (by omega)] at ih
      refine ⟨ih.1, Int.le_trans ih.2 ?_⟩
      rw [Int.pow_succ]
      omega
theorem prodL_mono {l : List Int} (h : ∀ x ∈ l, 1 ≤ x ∧ x ≤ 6) : ∀ (k n : Nat), prodL (l.take n) ≤ prodL (l.take (n + k))
  | 0, n => Int.le_refl _
  | k + 1, n => by
    refine Int.le_trans (prodL_mono h k n) ?_
    rw [show n + (k + 1) = (n + k) + 1 by omega]
    rcases Nat.lt_or_ge (n + k) l.length with z | z
    · rw [take_snoc (List.getElem?_eq_getElem z), prodL_snoc]
      have hx := h _ (List.getElem_mem z)
      have hp := prodL_bd (n + k) h
      generalize l[n + k] = x at hx
      generalize prodL (l.take (n + k)) = y at hp
      have := Int.mul_le_mul_of_nonneg_left hx.1 (show 0 ≤ y by omega)
      omega
    · rw [List.take_of_length_le (by omega), List.take_of_length_le (by omega)]
      exact Int.le_refl _
theorem prodL_pre {l : List Int} (h : ∀ x ∈ l, 1 ≤ x ∧ x ≤ 6) (n : Nat) : prodL (l.take n) ≤ prodL l := by
  have := prodL_mono h (l.length) n
  rwa [List.take_of_length_le (show l.length ≤ n + l.length by omega)] at this
theorem pow6 {n : Nat} (h : n ≤ 12) : (6 : Int) ^ n ≤ 2176782336 := by
  have : ∀ m, m ≤ 12 → (6 : Int) ^ m ≤ 2176782336 := by decide
  exact this n h
theorem S_shift_count (h : GrOk g a b) : F_shift_count g = some (prodL (lens g)) := by
  have hb := lens_bd h
  have hl := lens_len h
  obtain ⟨s', e, hs⟩ := forL_ex (body := fun (x7 : Int) (s6 : Int) => (pyMul s6 x7).bind fun v9 => some v9) (fun i s => s = prodL ((lens g).take i)) (l := lens g) (k := 0) (s := 1) rfl fun i x s hx hs => by
    rw [Nat.zero_add] at hs
    subst hs
    have hxb := hb x (List.mem_of_getElem? hx)
    have hi : i < (lens g).length := (List.getElem?_eq_some_iff.mp hx).1
    have hp := prodL_bd i hb
    have hp2 := pow6 (n := i) (by omega)
    refine ⟨prodL ((lens g).take i) * x, by rw [mul_ok (by unfold Sm; omega) (by unfold Sm; omega)]; rfl, ?_⟩
    rw [Nat.zero_add, take_snoc hx, prodL_snoc]
  rw [Nat.zero_add, List.take_length] at hs
  rw [F_shift_count, S_lengths_of h, Option.bind_some, e, hs]; rfl
theorem S_check_shifts_few (h : GrOk g a b) (h2 : prodL (lens g) ≤ 1000) : F_check_shifts_few g = some () := by
  rw [F_check_shifts_few, S_check_grove, Option.bind_some, S_shift_count h, Option.bind_some, if_neg (by simp; omega)]
/-! all of them -/
def longer (n : Int) (row : List Int) : List (List Int) := (rngI n).map fun s => row ++ [s]
def shN (l : List Int) : List (List Int) := l.foldl (fun rows n => rows.flatMap (longer n)) [[]]
theorem shN_snoc {l : List Int} {x : Int} : shN (l ++ [x]) = (shN l).flatMap (longer x) := by simp [shN, List.foldl_append]
theorem flat_len {n : Int} (hn : 0 ≤ n) : ∀ {rows : List (List Int)}, (((rows.flatMap (longer n)).length : Nat) : Int) = (rows.length : Nat) * n
  | [] => by simp
  | r :: rows => by
    rw [List.flatMap_cons, List.length_append, List.length_cons, Int.natCast_add, flat_len hn, Int.natCast_add, Int.add_mul]
    simp [longer, rngI]
    omega
theorem shN_len {l : List Int} (h : ∀ x ∈ l, 1 ≤ x ∧ x ≤ 6) : ∀ n, (((shN (l.take n)).length : Nat) : Int) = prodL (l.take n)
  | 0 => rfl
  | n + 1 => by
    rcases Nat.lt_or_ge n l.length with z | z
    · have hx := h _ (List.getElem_mem z)
      rw [take_snoc (List.getElem?_eq_getElem z), prodL_snoc, shN_snoc, flat_len (by omega), shN_len h n]
    · have := shN_len h n
      rw [List.take_of_length_le (by omega)] at this ⊢
      exact this
theorem shN_row {l : List Int} : ∀ (n : Nat) {r : List Int}, r ∈ shN (l.take n) → r.length = (l.take n).length
  | 0, r, h => by simp [shN] at h; rw [h]; rfl
  | n + 1, r, h => by
    rcases Nat.lt_or_ge n l.length with z | z
    · rw [take_snoc (List.getElem?_eq_getElem z), shN_snoc, List.mem_flatMap] at h
      obtain ⟨r0, h0, h1⟩ := h
      obtain ⟨s, _, rfl⟩ := List.mem_map.mp h1
      rw [take_snoc (List.getElem?_eq_getElem z), List.length_append, List.length_append, shN_row n h0]; rfl
    · have := shN_row (r := r) n (by rw [List.take_of_length_le (by omega)] at h ⊢; exact h)
      rw [List.take_of_length_le (by omega)] at this ⊢; exact this
theorem S_all_shifts (h : GrOk g a b) (h2 : prodL (lens g) ≤ 1000) : F_all_shifts g = some (shN (lens g)) := by
  have hb := lens_bd h
  have hl := lens_len h
  obtain ⟨s', e, hs⟩ := forL_ex (body := fun (x7 : Int) (s6 : List (List Int)) => (forL (σ := (List (List Int))) (fun x14 s13 => (pyRng x7).bind fun l16 => (lcM (fun x17 => some true) (fun x17 => (pySz (x14 ++ [x17])).bind fun v18 => some v18) l16).bind fun l19 => (pyExt s13 l19).bind fun l21 => some l21) s6 (([] : List (List Int)))).bind fun s15 => some s15)
    (fun i s => s = shN ((lens g).take i)) (l := lens g) (k := 0) (s := [[]]) rfl fun i n s hn hs => by
    rw [Nat.zero_add] at hs
    subst hs
    have hnb := hb n (List.mem_of_getElem? hn)
    have hi : i < (lens g).length := (List.getElem?_eq_some_iff.mp hn).1
    have htot : (((shN ((lens g).take i)).flatMap (longer n)).length : Int) ≤ 1000 := by
      rw [← shN_snoc, ← take_snoc hn, shN_len hb]
      exact Int.le_trans (prodL_pre hb _) h2
    obtain ⟨t', e2, ht⟩ := forL_ex (body := fun (x14 : List Int) (s13 : List (List Int)) => (pyRng n).bind fun l16 => (lcM (fun x17 => some true) (fun x17 => (pySz (x14 ++ [x17])).bind fun v18 => some v18) l16).bind fun l19 => (pyExt s13 l19).bind fun l21 => some l21)
      (fun j t => t = ((shN ((lens g).take i)).take j).flatMap (longer n)) (l := shN ((lens g).take i)) (k := 0) (s := []) rfl fun j row t hr ht => by
      rw [Nat.zero_add] at ht
      subst ht
      have hrl : row.length ≤ 12 := by
        have := shN_row i (List.mem_of_getElem? hr)
        rw [this, List.length_take]; omega
      have hsz : (((shN ((lens g).take i)).take j).flatMap (longer n)).length + (longer n row).length ≤ 1000 := by
        have e1 : (((shN ((lens g).take i)).take (j + 1)).flatMap (longer n)).length = (((shN ((lens g).take i)).take j).flatMap (longer n)).length + (longer n row).length := by
          rw [take_snoc hr, List.flatMap_append, List.length_append, List.flatMap_cons, List.flatMap_nil, List.append_nil]
        have e2 : ((shN ((lens g).take i)).flatMap (longer n)).length = (((shN ((lens g).take i)).take (j + 1)).flatMap (longer n)).length + (((shN ((lens g).take i)).drop (j + 1)).flatMap (longer n)).length := by
          rw [← List.length_append, ← List.flatMap_append, List.take_append_drop]
        omega
      refine ⟨((shN ((lens g).take i)).take j).flatMap (longer n) ++ longer n row, ?_, ?_⟩
      · rw [rng_ok (by unfold Sm; omega) (by omega) (by omega), Option.bind_some, lcM_map (fun s => row ++ [s]) (by rw [rngI_len]; omega) fun s _ => by rw [sz_ok (by rw [List.length_append, List.length_singleton]; omega)]; rfl, Option.bind_some]
        show ((pyExt (((shN ((lens g).take i)).take j).flatMap (longer n)) (longer n row)).bind fun l21 => some l21) = _
        rw [ext_ok (by omega)]; rfl
      · rw [Nat.zero_add, take_snoc hr, List.flatMap_append, List.flatMap_cons, List.flatMap_nil, List.append_nil]
    rw [Nat.zero_add, List.take_length] at ht
    refine ⟨t', by rw [e2]; rfl, ?_⟩
    rw [Nat.zero_add, take_snoc hn, shN_snoc, ht]
  rw [Nat.zero_add, List.take_length] at hs
  rw [F_all_shifts, S_lengths_of h, Option.bind_some, e, hs]; rfl
/-! rows, shifted -/
def b2i (b : Bool) : Int := if b then 1 else 0
theorem b2i_bd (b : Bool) : 0 ≤ b2i b ∧ b2i b ≤ 1 := by cases b <;> decide
def shRow (q : Str × Pm) (s : Int) : List Int := (rngI 60).map fun y => cnt q * b2i (bit (pat q) (y + s))
def shRows (q : Str × Pm) : List (List Int) := (rngI (pat q).length).map fun s => shRow q s
theorem loop_app {α β : Type} {body : α → List β → Option (List β)} (f : α → β) {l : List α} (hl : l.length ≤ 1000) (h : ∀ x ∈ l, ∀ s : List β, s.length ≤ 1000 → body x s = some (s ++ [f x])) : forL body l [] = some (l.map f) := by
  obtain ⟨s', e, hs⟩ := forL_ex (body := body) (fun i s => s = (l.take i).map f) (l := l) (k := 0) (s := []) rfl fun i x s hx hs => by
    rw [Nat.zero_add] at hs
    refine ⟨s ++ [f x], h x (List.mem_of_getElem? hx) s (by rw [hs, List.length_map, List.length_take]; omega), ?_⟩
    rw [Nat.zero_add, take_snoc hx, List.map_append, hs]; rfl
  rw [Nat.zero_add, List.take_length] at hs
  rw [e, hs]
theorem S_rows_shifted (h : GrOk g a b) : F_rows_shifted g = some (g.own_palms.map shRows) := by
  have hl := h.l1
  have hz : (g.own_palms.map Prod.fst).zip (lens g) = g.own_palms.map fun q => (q.1, ((pat q).length : Int)) := by
    unfold lens
    generalize g.own_palms = ps
    induction ps with
    | nil => rfl
    | cons p ps ih => rw [List.map_cons, List.map_cons, List.zip_cons_cons, ih]; rfl
  have e : ∀ {f : O_Grove → Option (List (List (List Int)))} {body : Str × Int → List (List (List Int)) → Option (List (List (List Int)))}, (∀ q ∈ g.own_palms, ∀ s : List (List (List Int)), s.length ≤ 1000 → body (q.1, ((pat q).length : Int)) s = some (s ++ [shRows q])) → forL body ((g.own_palms.map Prod.fst).zip (lens g)) [] = some (g.own_palms.map shRows) := by
    intro f body hb
    rw [hz]
    have := loop_app (body := fun q s => body (q.1, ((pat q).length : Int)) s) shRows (l := g.own_palms) (by omega) hb
    rw [← this]
    have gen : ∀ (l : List (Str × Pm)) (s : List (List (List Int))), forL body (l.map fun q => (q.1, ((pat q).length : Int))) s = forL (fun q s => body (q.1, ((pat q).length : Int)) s) l s := by
      intro l
      induction l with
      | nil => intro s; rfl
      | cons x xs ih => intro s; rw [List.map_cons, forL, forL]; congr 1; funext s'; exact ih s'
    exact gen _ _
  rw [F_rows_shifted, show F_Grove_palm_names g = some (g.own_palms.map Prod.fst) from rfl, Option.bind_some, S_lengths_of h, Option.bind_some, e (f := fun _ => none) fun q hq s hs => ?_]
  · rfl
  · have hp := h.patOk hq
    have h1 := hp.1; have h2 := hp.2.1
    have hn : 1 ≤ cnt q ∧ cnt q ≤ 99 := (h.pn q hq).2.hn
    show (F_Grove_years_of g q.1).bind _ = _
    rw [S_years_of h hq, Option.bind_some]
    show (F_Grove_dates_of g q.1).bind _ = _
    rw [S_dates_of h hq, Option.bind_some, rng_ok (n := ((pat q).length : Int)) (by unfold Sm; omega) (by omega) (by omega), Option.bind_some, loop_app (fun s => shRow q s) (by rw [rngI_len]; omega) fun sh _ t ht => ?_]
    · rw [Option.bind_some, Dm.app_ok (by omega)]; rfl
    · rw [rng60, Option.bind_some, lcM_map (fun y => cnt q * b2i (bit (pat q) (y + sh))) l60 fun y _ => ?_]
      · rw [Option.bind_some, Dm.app_ok (by omega)]; rfl
      · rw [mod_ok (by omega), Option.bind_some, sign_one hp, Option.bind_some, one_is]
        have := b2i_bd (bit (pat q) (y + sh))
        show (pyMul (cnt q) (b2i (bit (pat q) (y + sh)))).bind _ = _
        rw [mul_ok (by unfold Sm; omega) (by unfold Sm; omega)]; rfl
/-- shifts of a grove's palms -/
def ShOk (g : O_Grove) (sh : List Int) : Prop := sh.length = g.own_palms.length ∧ ∀ (i : Nat) (q : Str × Pm) (s : Int), g.own_palms[i]? = some q → sh[i]? = some s → 0 ≤ s ∧ s < ((pat q).length : Int)
def sumsBy (g : O_Grove) (sh : List Int) : List Int := (rngI 60).map fun y => ((g.own_palms.zip sh).map fun x => cnt x.1 * b2i (bit (pat x.1) (y + x.2))).sum
theorem S_sums_by (h : GrOk g a b) {sh : List Int} (h2 : ShOk g sh) : F_sums_by (g.own_palms.map shRows) sh = some (sumsBy g sh) := by
  have hl := h.l1
  have hz : (g.own_palms.map shRows).zip sh = (g.own_palms.zip sh).map fun x => (shRows x.1, x.2) := by rw [List.zip_map_left]; rfl
  have hzl : (g.own_palms.zip sh).length ≤ 12 := by rw [List.length_zip]; omega
  have mem : ∀ x ∈ g.own_palms.zip sh, 0 ≤ x.2 ∧ x.2 < ((pat x.1).length : Int) := fun x hx => by
    obtain ⟨i, hi, e⟩ := List.getElem_of_mem hx
    have e := congrArg some e
    rw [← List.getElem?_eq_getElem, List.getElem?_zip_eq_some] at e
    exact h2.2 i x.1 x.2 e.1 e.2
  rw [F_sums_by, hz, lcM_ofm (fun x : (Str × Pm) × Int => (shRows x.1, x.2)) (fun x => shRow x.1 x.2) (by omega) fun x hx => ?_]
  · rw [Option.bind_some, rng60, Option.bind_some, lcM_map (fun y => ((g.own_palms.zip sh).map fun x => cnt x.1 * b2i (bit (pat x.1) (y + x.2))).sum) l60 fun y hy => ?_]
    · rfl
    · rw [lcM_ofm (fun x : (Str × Pm) × Int => shRow x.1 x.2) (fun x => cnt x.1 * b2i (bit (pat x.1) (y + x.2))) (by omega) fun x hx => ?_]
      · rfl
      · have hy := mem_rngI.mp hy
        obtain ⟨n, rfl⟩ := Int.eq_ofNat_of_zero_le hy.1
        rw [show pyIx (shRow x.1 x.2) ((n : Nat) : Int) = some (cnt x.1 * b2i (bit (pat x.1) (((n : Nat) : Int) + x.2))) from ix_nat (by rw [shRow, rngI, List.map_map, List.getElem?_map, List.getElem?_range (by omega)]; rfl)]; rfl
  · have := mem x hx
    obtain ⟨n, hn⟩ := Int.eq_ofNat_of_zero_le this.1
    show (pyIx (shRows x.1) x.2).bind _ = _
    rw [hn, show pyIx (shRows x.1) ((n : Nat) : Int) = some (shRow x.1 ((n : Nat) : Int)) from ix_nat (by rw [shRows, rngI, List.map_map, List.getElem?_map, List.getElem?_range (by omega)]; rfl)]; rfl
theorem shN_ok {l : List Int} (h : ∀ x ∈ l, 1 ≤ x) : ∀ (n : Nat) {r : List Int}, r ∈ shN (l.take n) → ∀ (i : Nat) (x s : Int), (l.take n)[i]? = some x → r[i]? = some s → 0 ≤ s ∧ s < x
  | 0, r, hr, i, x, s, h1, h2 => by simp at h1
  | n + 1, r, hr, i, x, s, h1, h2 => by
    rcases Nat.lt_or_ge n l.length with z | z
    · rw [take_snoc (List.getElem?_eq_getElem z)] at hr h1
      rw [shN_snoc, List.mem_flatMap] at hr
      obtain ⟨r0, h0, h3⟩ := hr
      obtain ⟨t, ht, rfl⟩ := List.mem_map.mp h3
      have ht := mem_rngI.mp ht
      have hl0 := shN_row n h0
      rcases Nat.lt_or_ge i (l.take n).length with hi | hi
      · rw [List.getElem?_append_left hi] at h1
        rw [List.getElem?_append_left (by omega)] at h2
        exact shN_ok h n h0 i x s h1 h2
      · have hn : (l.take n).length = n := by rw [List.length_take]; omega
        have hie : i = n := by
          have := (List.getElem?_eq_some_iff.mp h1).1
          rw [List.length_append, hn] at this
          simp at this; omega
        subst hie
        rw [List.getElem?_append_right (by omega)] at h1 h2
        rw [show i - (l.take i).length = 0 by omega] at h1
        rw [show i - r0.length = 0 by omega] at h2
        simp at h1 h2
        subst h1 h2
        exact ht
    · rw [List.take_of_length_le (by omega)] at hr h1
      have := shN_ok h n (r := r) (by rw [List.take_of_length_le (by omega)]; exact hr) i x s (by rw [List.take_of_length_le (by omega)]; exact h1) h2
      exact this
theorem shN_sh (h : GrOk g a b) {sh : List Int} (hs : sh ∈ shN (lens g)) : ShOk g sh := by
  have hb := lens_bd h
  have e : (lens g).take (lens g).length = lens g := List.take_length
  refine ⟨?_, fun i q s h1 h2 => ?_⟩
  · have := shN_row (l := lens g) (lens g).length (r := sh) (by rw [e]; exact hs)
    rw [e] at this
    rw [this]; simp [lens]
  · have := shN_ok (l := lens g) (fun x hx => (hb x hx).1) (lens g).length (r := sh) (by rw [e]; exact hs) i ((pat q).length : Int) s (by rw [e, lens, List.getElem?_map, h1]; rfl) h2
    exact this
theorem sumsBy_ne (g : O_Grove) (sh : List Int) : sumsBy g sh ≠ [] := by
  intro e
  have := congrArg List.length e
  simp [sumsBy, rngI] at this
def better (g : O_Grove) (best : Option (Int × List Int)) (sh : List Int) : Option (Int × List Int) := match best with
  | none => some (mnL (sumsBy g sh), sh)
  | some b => if b.1 < mnL (sumsBy g sh) then some (mnL (sumsBy g sh), sh) else some b
def bestOf (g : O_Grove) (rows : List (List Int)) : Option (Int × List Int) := rows.foldl (better g) none
theorem bestOf_snoc {rows : List (List Int)} {sh : List Int} : bestOf g (rows ++ [sh]) = better g (bestOf g rows) sh := by simp [bestOf, List.foldl_append]
theorem S_told_evenest (h : GrOk g a b) (h2 : prodL (lens g) ≤ 1000) {r : Int × List Int} (hr : bestOf g (shN (lens g)) = some r) : F_told_evenest g = some r := by
  have e : forL (σ := (Option ((Int × (List Int))))) (fun x8 s7 => (F_sums_by (g.own_palms.map shRows) x8).bind fun v10 =>
  (pyMin v10).bind fun v11 =>
  (if (s7.isNone) = true then some true else (s7).bind fun u12 =>
  some ((decide (u12.1 < v11)))).bind fun v13 =>
  (if v13 = true then some ((some ((v11, x8)))) else some s7).bind fun v15 =>
  some v15) (shN (lens g)) none = some (bestOf g (shN (lens g))) := by
    refine forL_eq (better g) (fun _ => True) trivial fun sh hs s _ => ⟨?_, trivial⟩
    rw [S_sums_by h (shN_sh h hs), Option.bind_some, min_ok (sumsBy_ne g sh), Option.bind_some]
    cases s with
    | none => rfl
    | some bb =>
      rw [if_neg (by simp), Option.bind_some, Option.bind_some]
      by_cases hh : bb.1 < mnL (sumsBy g sh)
      · simp [hh, better]
      · simp [hh, better]
  rw [F_told_evenest, S_rows_shifted h, Option.bind_some, S_all_shifts h h2, Option.bind_some, e, Option.bind_some, hr]; rfl
theorem S_evenest (h : GrOk g a b) (h2 : prodL (lens g) ≤ 1000) {r : Int × List Int} (hr : bestOf g (shN (lens g)) = some r) : F_evenest g = some r := by
  rw [F_evenest, S_check_shifts_few h h2, Option.bind_some, S_told_evenest h h2 hr]; rfl
end

end K92

set_option Elab.async false
set_option linter.all false
set_option maxRecDepth 100000
set_option maxHeartbeats 4000000
set_option autoImplicit false
namespace K92
open PySem L2 Dm StX PyProof.Rows
/-! a life's grove; the plain law of it -/
def nmP (i : Nat) : Str := ("p" : Str) ++ Str.ofString (toString ((i : Nat) : Int))
theorem nmP_tl {i : Nat} (h : i < 10) : TL.tl (nmP i) = [112, 48 + i] := by
  rw [nmP, TL.tl_append, TL.tl_num, TL.numL_lt h]; rfl
theorem len_tl' (x : Str) : x.length = (TL.tl x).length := TL.len_tl x

theorem nmP_ok {i : Nat} (h : i < 10) : NmOk (nmP i) := by
  have e := nmP_tl h
  refine ⟨by rw [len_tl', e]; exact Nat.le_of_ble_eq_true rfl, ⟨112, ?_, by decide⟩, ?_⟩
  · show atI (TL.tl (nmP i)) 0 = _
    rw [e]; rfl
  · show ∀ c ∈ TL.tl (nmP i), _
    rw [e]
    have h2 : ∀ i < 10, (48 + i) ∈ ("0123456789" : Str).cps.toList := by decide
    intro c hc
    simp at hc
    rcases hc with rfl | rfl
    · exact .inl (by decide)
    · exact .inr (h2 i h)
theorem nmP_inj {i j : Nat} (h : i < 10) (h2 : j < 10) (e : nmP i = nmP j) : i = j := by
  have := congrArg TL.tl e
  rw [nmP_tl h, nmP_tl h2] at this
  simpa using this
theorem joinL_nil : ∀ xs : List (List Nat), TL.joinL [] xs = xs.flatten
  | [] => rfl
  | [p] => by simp [TL.joinL]
  | p :: q :: r => by
    have := joinL_nil (q :: r)
    simp [TL.joinL] at this ⊢
    rw [this]
def sgL (y l p : Int) : List Nat := (List.range l.toNat).map fun t => if decide (y ≤ (((t : Nat) : Int) - p) % l) then 49 else 48
def sgW (y l p : Int) : List Str := (List.range l.toNat).map fun t => if decide (y ≤ (((t : Nat) : Int) - p) % l) then ("1" : Str) else ("0" : Str)
def sgP (y l p : Int) : Str := Txt.join "" (sgW y l p)
theorem flat_map1 {α : Type} (f : α → Nat) : ∀ l : List α, (l.map fun a => [f a]).flatten = l.map f
  | [] => rfl
  | a :: l => by simp [flat_map1 f l]
theorem sgP_tl (y l p : Int) : TL.tl (sgP y l p) = sgL y l p := by
  rw [sgP, TL.join_eq, TL.tl_join, show TL.tl ("" : Str) = [] from rfl, joinL_nil, sgW, List.map_map, sgL, ← flat_map1]
  congr 1
  apply List.map_congr_left
  intro t _
  show TL.tl (if _ then _ else _) = _
  split <;> rfl
theorem sgP_len {y l p : Int} (hl : 0 < l) : ((sgP y l p).length : Int) = l := by
  rw [len_tl', sgP_tl]; simp [sgL]; omega
theorem sgP_at {y l p t : Int} (h : Life y l) : bit (sgP y l p) t = decide (y ≤ (t - p) % l) := by
  obtain ⟨h1, h2, h3⟩ := h
  have hl : 0 < l := by omega
  have e : (sgP y l p).cps.toList = sgL y l p := sgP_tl y l p
  have m1 := Int.emod_nonneg t (Int.ne_of_gt hl)
  have m2 := Int.emod_lt_of_pos t hl
  unfold bit
  rw [sgP_len hl, e, List.getD_eq_getElem?_getD, sgL, List.getElem?_map, List.getElem?_range (by omega)]
  simp only [Option.map_some, Option.getD_some]
  have e1 : ((t % l).toNat : Int) = t % l := by omega
  have e2 : (t % l - p) % l = (t - p) % l := by rw [Int.sub_emod, Int.emod_emod, ← Int.sub_emod]
  simp only [e1, e2]
  by_cases hh : y ≤ (t - p) % l
  · simp [hh]
  · simp [hh]
theorem age_iff {p a l t : Int} (hl : 0 < l) (ha : 0 ≤ a ∧ a < l) (ht : 0 ≤ t ∧ t < l) : (t - p) % l = a ↔ t = (p + a) % l := by
  constructor
  · intro h
    have e1 : (p + a) % l = (p + (t - p)) % l := by rw [← h, Int.add_emod, Int.emod_emod, ← Int.add_emod]
    rw [e1, show p + (t - p) = t by omega, Int.emod_eq_of_lt ht.1 ht.2]
  · intro h
    have e1 : (t - p) % l = ((p + a) - p) % l := by rw [h, Int.sub_emod, Int.emod_emod, ← Int.sub_emod]
    rw [e1, show p + a - p = a by omega, Int.emod_eq_of_lt ha.1 ha.2]
theorem sgP_ok {y l p : Int} (h : Life y l) (hl6 : l ≤ 6) : PatOk (sgP y l p) := by
  have hh := h
  obtain ⟨h1, h2, h3⟩ := h
  have hl : 0 < l := by omega
  have e : (sgP y l p).cps.toList = sgL y l p := sgP_tl y l p
  have hlen := sgP_len (y := y) (p := p) hl
  refine ⟨by omega, by omega, ?_, ?_⟩
  · rw [e]
    intro c hc
    obtain ⟨t, _, rfl⟩ := List.mem_map.mp hc
    split <;> decide
  · rw [e]
    have j1 := Int.emod_nonneg (p + (l - 1)) (Int.ne_of_gt hl)
    have j2 := Int.emod_lt_of_pos (p + (l - 1)) hl
    refine List.mem_map.mpr ⟨((p + (l - 1)) % l).toNat, by simp; omega, ?_⟩
    rw [show (((p + (l - 1)) % l).toNat : Int) = (p + (l - 1)) % l by omega]
    rw [show ((p + (l - 1)) % l - p) % l = l - 1 from (age_iff hl ⟨by omega, by omega⟩ ⟨j1, j2⟩).mpr rfl]
    rw [if_pos (by simp; omega)]

theorem sgL_01 {y l p : Int} : ∀ c ∈ TL.tl (sgP y l p), c = 48 ∨ c = 49 := by
  rw [sgP_tl]
  intro c hc
  obtain ⟨t, _, rfl⟩ := List.mem_map.mp hc
  split
  · exact .inr rfl
  · exact .inl rfl
section
variable {y l : Int} {ps : List Int} {t0 : Int}
def pmP (t0 y l : Int) (a : Int × Nat) : Str × Pm := (nmP a.2, (9, 0, t0, sgP y l a.1, 1))
def palmsP (t0 y l : Int) (ps : List Int) : List (Str × Pm) := ps.zipIdx.map (pmP t0 y l)
def gOf (t0 y l : Int) (ps : List Int) : O_Grove := ⟨gText 1 1 (palmsP t0 y l ps) [], some (1, 1), palmsP t0 y l ps, []⟩
theorem palms_len : (palmsP t0 y l ps).length = ps.length := by simp [palmsP]
theorem gOf_ok (h : Life y l) (h6 : l ≤ 6) (hp : ps.length ≤ 6) (hne : ps ≠ []) (ht : 0 ≤ t0 ∧ t0 ≤ 999) : GrOk (gOf t0 y l ps) 1 1 := by
  have mem : ∀ q ∈ palmsP t0 y l ps, ∃ a : Int × Nat, a.2 < 6 ∧ q = pmP t0 y l a := fun q hq => by
    obtain ⟨a, ha, rfl⟩ := List.mem_map.mp hq
    have := (List.mem_zipIdx ha).2.1
    exact ⟨a, by simp at this; omega, rfl⟩
  have hl := palms_len (t0 := t0) (y := y) (l := l) (ps := ps)
  refine ⟨rfl, by decide, by decide, ?_, ?_, ?_, by simp [gOf], fun q hq => ?_, fun q hq => by simp [gOf] at hq⟩
  · show ((palmsP t0 y l ps).map Prod.fst ++ []).Nodup
    rw [List.append_nil, List.Nodup, List.pairwise_iff_getElem]
    intro i j hi hj hij e
    have lj : j < ps.length := by simpa [palmsP] using hj
    have e := congrArg some e
    rw [← List.getElem?_eq_getElem, ← List.getElem?_eq_getElem] at e
    have at_ : ∀ k, k < ps.length → ((palmsP t0 y l ps).map Prod.fst)[k]? = some (nmP k) := fun k hk => by
      simp only [palmsP, List.getElem?_map, List.getElem?_zipIdx, List.getElem?_eq_getElem hk]
      simp [pmP]
    rw [at_ i (by omega), at_ j lj] at e
    have := nmP_inj (by omega) (by omega) (Option.some.inj e)
    omega
  · show palmsP t0 y l ps ≠ []
    intro e
    rw [e] at hl
    exact hne (List.length_eq_zero_iff.mp hl.symm)
  · show (palmsP t0 y l ps).length ≤ 12
    omega
  · obtain ⟨a, ha, rfl⟩ := mem q hq
    exact ⟨nmP_ok (by omega), ⟨show (1 : Int) ≤ 9 by decide, show (9 : Int) ≤ 60 by decide⟩, ⟨show (0 : Int) ≤ 0 by decide, show (0 : Int) ≤ 999 by decide⟩, ht, ht.1, sgP_ok h h6, ⟨show (1 : Int) ≤ 1 by decide, show (1 : Int) ≤ 99 by decide⟩⟩
end

theorem bearB_sum (y l t : Int) : ∀ ps : List Int, bearB y l ps t = (ps.map fun p => b2i (decide (y ≤ (t - p) % l))).sum
  | [] => rfl
  | p :: ps => by
    have ih := bearB_sum y l t ps
    unfold bearB at ih ⊢
    rw [List.map_cons, List.sum_cons, ← ih, List.filter_cons]
    unfold b2i
    split
    · simp; omega
    · simp
theorem bearB_mod {y l t : Int} {ps : List Int} : bearB y l ps (t % l) = bearB y l ps t := by
  rw [bearB_sum, bearB_sum]
  congr 1
  apply List.map_congr_left
  intro p _
  rw [Int.sub_emod (t % l), Int.emod_emod, ← Int.sub_emod]
theorem bearB_bd {y l t : Int} {ps : List Int} : 0 ≤ bearB y l ps t ∧ bearB y l ps t ≤ (ps.length : Nat) := by
  unfold bearB
  have := List.length_filter_le (fun p => decide (y ≤ (t - p) % l)) ps
  omega
theorem bearB_all {y l t : Int} {ps : List Int} : (ps.all fun p => decide (y ≤ (t - p) % l)) = decide (bearB y l ps t = (ps.length : Nat)) := by
  rw [Bool.eq_iff_iff]
  rw [decide_eq_true_eq, List.all_eq_true]
  unfold bearB
  rw [show ((((ps.filter fun p => decide (y ≤ (t - p) % l)).length : Nat) : Int) = (ps.length : Nat)) ↔ (ps.filter fun p => decide (y ≤ (t - p) % l)).length = ps.length by omega]
  rw [List.length_filter_eq_length_iff]
/-- over one round of years each plant bears l - y times -/
theorem round1 {y l : Int} (h : Life y l) (h6 : l ≤ 6) (c : Int) : ((List.range l.toNat).map fun t => b2i (decide (y ≤ (((t : Nat) : Int) - c) % l))).sum = l - y := by
  have key : ∀ l < 7, ∀ y < l, ∀ c < l, ((List.range l).map fun t => b2i (decide ((y : Int) ≤ (((t : Nat) : Int) - (c : Nat)) % (l : Nat)))).sum = (l : Int) - (y : Nat) := by decide +kernel
  obtain ⟨h1, h2, h3⟩ := h
  have hl : 0 < l := by omega
  have m1 := Int.emod_nonneg c (Int.ne_of_gt hl)
  have m2 := Int.emod_lt_of_pos c hl
  have := key l.toNat (by omega) y.toNat (by omega) (c % l).toNat (by omega)
  rw [show ((l.toNat : Nat) : Int) = l by omega, show ((y.toNat : Nat) : Int) = y by omega, show (((c % l).toNat : Nat) : Int) = c % l by omega] at this
  rw [← this]
  congr 1
  apply List.map_congr_left
  intro t _
  rw [Int.sub_emod (t : Int) (c % l), Int.emod_emod, ← Int.sub_emod]
theorem sum_add {α : Type} (f g : α → Int) : ∀ l : List α, (l.map fun a => f a + g a).sum = (l.map f).sum + (l.map g).sum
  | [] => rfl
  | a :: l => by simp only [List.map_cons, List.sum_cons, sum_add f g l]; omega
theorem sum_zero {α : Type} : ∀ l : List α, (l.map fun _ => (0 : Int)).sum = 0
  | [] => rfl
  | a :: l => by simp only [List.map_cons, List.sum_cons, sum_zero l]; rfl
theorem round {y l : Int} (h : Life y l) (h6 : l ≤ 6) : ∀ ps : List Int, ((List.range l.toNat).map fun t => bearB y l ps ((t : Nat) : Int)).sum = (ps.length : Nat) * (l - y)
  | [] => by
    have : (fun t : Nat => bearB y l [] ((t : Nat) : Int)) = fun _ => 0 := by funext t; rfl
    rw [this]
    simp only [List.length_nil]
    rw [sum_zero]; simp
  | p :: ps => by
    have e : (fun t : Nat => bearB y l (p :: ps) ((t : Nat) : Int)) = fun t => b2i (decide (y ≤ (((t : Nat) : Int) - p) % l)) + bearB y l ps ((t : Nat) : Int) := by
      funext t
      rw [bearB_sum, bearB_sum, List.map_cons, List.sum_cons]
    rw [e, sum_add, round1 h h6, round h h6 ps, List.length_cons, Int.natCast_add, Int.add_mul]
    omega
theorem sum_ge {m : Int} : ∀ {l : List Int}, (∀ x ∈ l, m ≤ x) → m * (l.length : Nat) ≤ l.sum
  | [], _ => by simp
  | a :: l, h => by
    have h1 := h a List.mem_cons_self
    have h2 := sum_ge fun x hx => h x (List.mem_cons_of_mem _ hx)
    rw [List.sum_cons, List.length_cons]
    have e : m * ((l.length + 1 : Nat) : Int) = m * (l.length : Nat) + m := by rw [Int.natCast_add, Int.mul_add]; simp
    omega
/-- no round has more in its worst year than the mean -/
theorem worst {y l m : Int} (h : Life y l) (h6 : l ≤ 6) {ps : List Int} (hm : ∀ t : Nat, t < l.toNat → m ≤ bearB y l ps (t : Nat)) : m ≤ (ps.length : Nat) * (l - y) / l := by
  have hl := h.pos
  have h1 : m * (((List.range l.toNat).map fun t => bearB y l ps ((t : Nat) : Int)).length : Nat) ≤ _ := sum_ge fun x hx => by
    obtain ⟨t, ht, rfl⟩ := List.mem_map.mp hx
    exact hm t (by simpa using ht)
  rw [round h h6] at h1
  rw [List.length_map, List.length_range, show ((l.toNat : Nat) : Int) = l by omega] at h1
  exact (Int.le_ediv_iff_mul_le hl).mpr h1
/-- plants evenly spread: every year has the mean, rounded down -/
theorem even_ok {y l : Int} (h : Life y l) (h6 : l ≤ 6) {n : Nat} (hn : n ≤ 5) (t : Int) : (n : Int) * (l - y) / l ≤ bearB y l (evenP l n) t := by
  have key : ∀ l < 7, ∀ y < l, ∀ n < 6, ∀ t < l, ((n : Nat) : Int) * ((l : Nat) - (y : Nat)) / (l : Nat) ≤ bearB (y : Nat) (l : Nat) (evenP (l : Nat) (n : Nat)) (t : Nat) := by decide +kernel
  obtain ⟨h1, h2, h3⟩ := h
  have hl : 0 < l := by omega
  have m1 := Int.emod_nonneg t (Int.ne_of_gt hl)
  have m2 := Int.emod_lt_of_pos t hl
  have := key l.toNat (by omega) y.toNat (by omega) n (by omega) (t % l).toNat (by omega)
  rw [show ((l.toNat : Nat) : Int) = l by omega, show ((y.toNat : Nat) : Int) = y by omega, show (((t % l).toNat : Nat) : Int) = t % l by omega, bearB_mod] at this
  exact this
theorem bearB_congr {y l t : Int} : ∀ {ps qs : List Int}, ps.length = qs.length → (∀ (i : Nat) (p q : Int), ps[i]? = some p → qs[i]? = some q → p % l = q % l) → bearB y l ps t = bearB y l qs t
  | [], [], _, _ => rfl
  | p :: ps, q :: qs, hl, h => by
    have h0 := h 0 p q rfl rfl
    have ih := bearB_congr (y := y) (l := l) (t := t) (ps := ps) (qs := qs) (by simpa using hl) fun i a b ha hb => h (i + 1) a b (by simpa using ha) (by simpa using hb)
    rw [bearB_sum, bearB_sum] at ih ⊢
    rw [List.map_cons, List.map_cons, List.sum_cons, List.sum_cons, ih, Int.sub_emod t p, h0, ← Int.sub_emod]
/-! rounds of years -/
theorem mn_eq {L : List Int} {m : Int} (h1 : m ∈ L) (h2 : ∀ x ∈ L, m ≤ x) : mnL L = m := Int.le_antisymm (mnL_le h1) (h2 _ (mnL_mem (List.ne_nil_of_mem h1)))
theorem mx_eq {L : List Int} {m : Int} (h1 : m ∈ L) (h2 : ∀ x ∈ L, x ≤ m) : mxL L = m := Int.le_antisymm (h2 _ (mxL_mem (List.ne_nil_of_mem h1))) (mxL_ge h1)
/-- f told over 60 years and over l -/
def ov (f : Int → Int) (n : Nat) : List Int := (List.range n).map fun t => f ((t : Nat) : Int)
theorem ov_add {f : Int → Int} (n k : Nat) : ov f (n + k) = ov f n ++ ((List.range k).map fun t => f (((n + t : Nat) : Int))) := by
  unfold ov
  rw [List.range_add, List.map_append, List.map_map]; rfl
structure Per (f : Int → Int) (l : Int) : Prop where
  p : 0 < l
  m : ∀ t, f (t % l) = f t
theorem ov_mem {f : Int → Int} {l : Int} (P : Per f l) {n : Nat} (hn : l.toNat ≤ n) {x : Int} : x ∈ ov f n ↔ x ∈ ov f l.toNat := by
  obtain ⟨hl, hm⟩ := P
  constructor
  · intro h
    obtain ⟨t, ht, rfl⟩ := List.mem_map.mp h
    have m1 := Int.emod_nonneg (t : Int) (Int.ne_of_gt hl)
    have m2 := Int.emod_lt_of_pos (t : Int) hl
    refine List.mem_map.mpr ⟨((t : Int) % l).toNat, by simp; omega, ?_⟩
    rw [show ((((t : Int) % l).toNat : Nat) : Int) = (t : Int) % l by omega, hm]
  · intro h
    obtain ⟨t, ht, rfl⟩ := List.mem_map.mp h
    exact List.mem_map.mpr ⟨t, by simp at ht ⊢; omega, rfl⟩
theorem ov_ne {f : Int → Int} {l : Int} (P : Per f l) : ov f l.toNat ≠ [] := by
  intro e
  have := congrArg List.length e
  have := P.p
  simp [ov] at *
  omega
theorem ov_mn {f : Int → Int} {l : Int} (P : Per f l) {n : Nat} (hn : l.toNat ≤ n) : mnL (ov f n) = mnL (ov f l.toNat) :=
  mn_eq ((ov_mem P hn).mpr (mnL_mem (ov_ne P))) fun x hx => mnL_le ((ov_mem P hn).mp hx)
theorem ov_mx {f : Int → Int} {l : Int} (P : Per f l) {n : Nat} (hn : l.toNat ≤ n) : mxL (ov f n) = mxL (ov f l.toNat) :=
  mx_eq ((ov_mem P hn).mpr (mxL_mem (ov_ne P))) fun x hx => mxL_ge ((ov_mem P hn).mp hx)
theorem ov_ix {f : Int → Int} {l : Int} (P : Per f l) {n : Nat} (hn : l.toNat ≤ n) {x : Int} (hx : x ∈ ov f l.toNat) : (ov f n).idxOf x = (ov f l.toNat).idxOf x := by
  obtain ⟨k, rfl⟩ := Nat.exists_eq_add_of_le hn
  rw [ov_add, List.idxOf_append, if_pos hx]
theorem ov_sum {f : Int → Int} {l : Nat} (P : Per f (l : Nat)) : ∀ k : Nat, (ov f (l * k)).sum = k * (ov f l).sum
  | 0 => by simp [ov]
  | k + 1 => by
    rw [Nat.mul_succ, ov_add, List.sum_append, ov_sum P k]
    have : ((List.range l).map fun t => f (((l * k + t : Nat) : Int))) = ov f l := by
      apply List.map_congr_left
      intro t _
      rw [← P.m ((l * k + t : Nat) : Int), ← P.m ((t : Nat) : Int)]
      congr 1
      rw [Int.natCast_add, Int.natCast_mul, Int.add_emod, Int.mul_emod_right]
      simp
    rw [this, Int.natCast_add, Int.add_mul]
    omega
theorem sixty {l : Int} (h0 : 0 < l) (h6 : l ≤ 6) : ∃ k : Nat, 60 = l.toNat * k := by
  have : l = 1 ∨ l = 2 ∨ l = 3 ∨ l = 4 ∨ l = 5 ∨ l = 6 := by omega
  rcases this with rfl | rfl | rfl | rfl | rfl | rfl
  · exact ⟨60, rfl⟩
  · exact ⟨30, rfl⟩
  · exact ⟨20, rfl⟩
  · exact ⟨15, rfl⟩
  · exact ⟨12, rfl⟩
  · exact ⟨10, rfl⟩

/-! the grove and the plants agree -/
section
variable {y l : Int} {ps : List Int} {t0 : Int}
theorem perB (h : Life y l) (ps : List Int) : Per (bearB y l ps) l := ⟨h.pos, fun _ => bearB_mod⟩
theorem gOf_ps : (gOf t0 y l ps).own_palms.length = ps.length := palms_len
theorem bask_gen (h : Life y l) (t : Int) : ∀ (ps : List Int) (k : Nat), ((((ps.zipIdx k).map (pmP t0 y l)).filter fun q => bit (pat q) t).map cnt).sum = bearB y l ps t
  | [], _ => rfl
  | p :: ps, k => by
    have ih := bask_gen h t ps (k + 1)
    rw [bearB_sum, List.map_cons, List.sum_cons, ← bearB_sum, ← ih, List.zipIdx_cons, List.map_cons, List.filter_cons]
    rw [show bit (pat (pmP t0 y l (p, k))) t = decide (y ≤ (t - p) % l) from sgP_at h]
    unfold b2i
    split
    · rw [List.map_cons, List.sum_cons]; rfl
    · simp
theorem bask_eq (h : Life y l) (t : Int) : bask (gOf t0 y l ps) t = bearB y l ps t := bask_gen h t ps 0
theorem sums_eq (h : Life y l) : sums (gOf t0 y l ps) = ov (bearB y l ps) 60 := by
  unfold sums ov
  apply List.map_congr_left
  intro t _
  exact bask_eq h _
theorem rows_eq : rowsB y l ps = ov (bearB y l ps) l.toNat := rfl
theorem rows_at (h : Life y l) (t : Int) : atI ((rowsB y l ps).map D.int) (t % l) = some (.int (bearB y l ps t)) := by
  have hl := h.pos
  have m1 := Int.emod_nonneg t (Int.ne_of_gt hl)
  have m2 := Int.emod_lt_of_pos t hl
  obtain ⟨n, hn⟩ := Int.eq_ofNat_of_zero_le m1
  rw [hn]
  refine atI_nat ?_
  rw [rowsB, List.getElem?_map, List.getElem?_map, List.getElem?_range (by omega)]
  simp only [Option.map_some]
  rw [← hn, bearB_mod]
theorem mn_agree (h : Life y l) (h6 : l ≤ 6) : mnL (sums (gOf t0 y l ps)) = mnL (rowsB y l ps) := by rw [sums_eq h, rows_eq, ov_mn (perB h ps) (by omega)]
theorem mx_agree (h : Life y l) (h6 : l ≤ 6) : mxL (sums (gOf t0 y l ps)) = mxL (rowsB y l ps) := by rw [sums_eq h, rows_eq, ov_mx (perB h ps) (by omega)]
theorem mni_agree (h : Life y l) (h6 : l ≤ 6) : (sums (gOf t0 y l ps)).idxOf (mnL (rowsB y l ps)) = (rowsB y l ps).idxOf (mnL (rowsB y l ps)) := by
  rw [sums_eq h, rows_eq]
  exact ov_ix (perB h ps) (by omega) (mnL_mem (ov_ne (perB h ps)))
theorem mxi_agree (h : Life y l) (h6 : l ≤ 6) : (sums (gOf t0 y l ps)).idxOf (mxL (rowsB y l ps)) = (rowsB y l ps).idxOf (mxL (rowsB y l ps)) := by
  rw [sums_eq h, rows_eq]
  exact ov_ix (perB h ps) (by omega) (mxL_mem (ov_ne (perB h ps)))
theorem mean_agree (h : Life y l) (h6 : l ≤ 6) : (sums (gOf t0 y l ps)).sum / (Int.gcd (sums (gOf t0 y l ps)).sum 60 : Nat) * l = 60 / (Int.gcd (sums (gOf t0 y l ps)).sum 60 : Nat) * (rowsB y l ps).sum := by
  have hl := h.pos
  obtain ⟨k, hk⟩ := sixty hl h6
  have P := perB h ps
  have e1 : ((l.toNat : Nat) : Int) = l := by omega
  have e2 : (sums (gOf t0 y l ps)).sum = k * (rowsB y l ps).sum := by
    rw [sums_eq h, rows_eq, hk]
    exact ov_sum (by rw [e1]; exact P) k
  have e3 : (60 : Int) = l * k := by
    have : ((60 : Nat) : Int) = ((l.toNat * k : Nat) : Int) := by rw [← hk]
    rw [Int.natCast_mul, e1] at this
    exact this
  generalize (sums (gOf t0 y l ps)).sum = S at e2
  generalize (rowsB y l ps).sum = R at e2
  have hg : (0 : Int) < (Int.gcd S 60 : Nat) := by
    have : 0 < Int.gcd S 60 := Int.gcd_pos_iff.mpr (.inr (by decide))
    omega
  obtain ⟨a, ha⟩ := Int.gcd_dvd_left S 60
  obtain ⟨b, hb⟩ := Int.gcd_dvd_right S 60
  generalize ((Int.gcd S 60 : Nat) : Int) = g at hg ha hb
  rw [ha, hb, Int.mul_ediv_cancel_left _ (Int.ne_of_gt hg), Int.mul_ediv_cancel_left _ (Int.ne_of_gt hg)]
  have : g * (a * l) = g * (b * R) := by
    rw [← Int.mul_assoc, ← Int.mul_assoc, ← ha, ← hb, e2, e3, Int.mul_comm (k : Int) R, Int.mul_assoc, Int.mul_comm (k : Int) l, Int.mul_comm R]
  exact Int.eq_of_mul_eq_mul_left (Int.ne_of_gt hg) this
theorem all_gOf (h : Life y l) (t : Int) : ((gOf t0 y l ps).own_palms.all fun q => bit (pat q) t) = ps.all fun p => decide (y ≤ (t - p) % l) := by
  have gen : ∀ (ps : List Int) (k : Nat), (((ps.zipIdx k).map (pmP t0 y l)).all fun q => bit (pat q) t) = ps.all fun p => decide (y ≤ (t - p) % l) := by
    intro ps
    induction ps with
    | nil => intro _; rfl
    | cons p ps ih =>
      intro k
      rw [List.zipIdx_cons, List.map_cons, List.all_cons, List.all_cons, ih (k + 1)]
      rw [show bit (pat (pmP t0 y l (p, k))) t = decide (y ≤ (t - p) % l) from sgP_at h]
  exact gen ps 0
theorem any_gOf (h : Life y l) (t : Int) : ((gOf t0 y l ps).own_palms.any fun q => bit (pat q) t) = ps.any fun p => decide (y ≤ (t - p) % l) := by
  have gen : ∀ (ps : List Int) (k : Nat), (((ps.zipIdx k).map (pmP t0 y l)).any fun q => bit (pat q) t) = ps.any fun p => decide (y ≤ (t - p) % l) := by
    intro ps
    induction ps with
    | nil => intro _; rfl
    | cons p ps ih =>
      intro k
      rw [List.zipIdx_cons, List.map_cons, List.any_cons, List.any_cons, ih (k + 1)]
      rw [show bit (pat (pmP t0 y l (p, k))) t = decide (y ≤ (t - p) % l) from sgP_at h]
  exact gen ps 0
theorem years_agree (h : Life y l) : yearsAll (gOf t0 y l ps).own_palms = (rngI 60).filter fun t => decide (bearB y l ps t = (ps.length : Nat)) := by
  unfold yearsAll
  apply List.filter_congr
  intro t _
  rw [← bearB_all, all_gOf h]
theorem bearB_none {t : Int} : (!ps.any fun p => decide (y ≤ (t - p) % l)) = decide (bearB y l ps t = 0) := by
  rw [Bool.eq_iff_iff, decide_eq_true_eq, Bool.not_eq_true', List.any_eq_false]
  unfold bearB
  rw [show ((((ps.filter fun p => decide (y ≤ (t - p) % l)).length : Nat) : Int) = 0) ↔ (ps.filter fun p => decide (y ≤ (t - p) % l)) = [] by rw [← List.length_eq_zero_iff]; omega]
  rw [List.filter_eq_nil_iff]
theorem yearsNo_agree (h : Life y l) : yearsNo (gOf t0 y l ps).own_palms = (rngI 60).filter fun t => decide (bearB y l ps t = 0) := by
  unfold yearsNo
  apply List.filter_congr
  intro t _
  rw [← bearB_none, any_gOf h]
theorem one_agree (h : Life y l) {p t : Int} : bit (sgP y l p) t = decide (bearB y l [p] t = 1) := by
  rw [sgP_at h]
  have := bearB_all (y := y) (l := l) (t := t) (ps := [p])
  simpa using this
/-- the best of the shifts -/
theorem best_spec {g : O_Grove} : ∀ (rows : List (List Int)) (n : Nat), n ≤ rows.length → 0 < n → ∃ b, bestOf g (rows.take n) = some b ∧ (∀ sh ∈ rows.take n, mnL (sumsBy g sh) ≤ b.1) ∧ ∃ sh ∈ rows.take n, b.1 = mnL (sumsBy g sh)
  | rows, 0, _, h => absurd h (by decide)
  | rows, n + 1, hn, _ => by
    have hx : rows[n]? = some rows[n] := List.getElem?_eq_getElem (by omega)
    rw [take_snoc hx, bestOf_snoc]
    generalize rows[n] = sh
    rcases Nat.eq_zero_or_pos n with rfl | hp
    · refine ⟨(mnL (sumsBy g sh), sh), rfl, fun s hs => ?_, sh, by simp, rfl⟩
      simp at hs
      rw [hs]; exact Int.le_refl _
    · obtain ⟨b, e, h1, s, hs, h2⟩ := best_spec (g := g) rows n (by omega) hp
      rw [e]
      show ∃ b', (if b.1 < mnL (sumsBy g sh) then some (mnL (sumsBy g sh), sh) else some b) = some b' ∧ _
      by_cases hb : b.1 < mnL (sumsBy g sh)
      · rw [if_pos hb]
        refine ⟨_, rfl, fun s hs => ?_, sh, by simp, rfl⟩
        rcases List.mem_append.mp hs with hs | hs
        · have := h1 s hs
          show _ ≤ mnL (sumsBy g sh)
          omega
        · simp at hs
          rw [hs]; exact Int.le_refl _
      · rw [if_neg hb]
        refine ⟨_, rfl, fun s' hs' => ?_, s, List.mem_append_left _ hs, h2⟩
        rcases List.mem_append.mp hs' with hs' | hs'
        · exact h1 s' hs'
        · simp at hs'
          rw [hs']; omega
/-- every row of shifts stands there -/
theorem shN_mem {ls : List Int} : ∀ (n : Nat) {r : List Int}, n ≤ ls.length → r.length = n → (∀ (i : Nat) (x s : Int), i < n → ls[i]? = some x → r[i]? = some s → 0 ≤ s ∧ s < x) → r ∈ shN (ls.take n)
  | 0, r, _, hl, _ => by
    rw [List.length_eq_zero_iff.mp hl]
    simp [shN]
  | n + 1, r, hn, hl, h => by
    have hx : ls[n]? = some ls[n] := List.getElem?_eq_getElem (by omega)
    have hr : r[n]? = some r[n] := List.getElem?_eq_getElem (by omega)
    rw [take_snoc hx, shN_snoc, List.mem_flatMap]
    refine ⟨r.take n, shN_mem n (by omega) (by rw [List.length_take]; omega) fun i x s hi h1 h2 => h i x s (by omega) h1 (by rwa [List.getElem?_take_of_lt hi] at h2), ?_⟩
    have hb := h n _ _ (by omega) hx hr
    refine List.mem_map.mpr ⟨r[n], mem_rngI.mpr hb, ?_⟩
    rw [← take_snoc hr, List.take_of_length_le (by omega)]
theorem lens_gOf (h : Life y l) : lens (gOf t0 y l ps) = ps.map fun _ => l := by
  unfold lens gOf palmsP
  simp only [List.map_map]
  have gen : ∀ (ps : List Int) (k : Nat), (ps.zipIdx k).map ((fun q => ((pat q).length : Int)) ∘ pmP t0 y l) = ps.map fun _ => l := by
    intro ps
    induction ps with
    | nil => intro _; rfl
    | cons p ps ih =>
      intro k
      rw [List.zipIdx_cons, List.map_cons, List.map_cons, ih (k + 1)]
      congr 1
      exact sgP_len h.pos
  exact gen ps 0
theorem sumsBy_gOf (h : Life y l) (r : List Int) : sumsBy (gOf t0 y l ps) r = ov (bearB y l (List.zipWith (· - ·) ps r)) 60 := by
  unfold sumsBy ov
  apply List.map_congr_left
  intro t _
  have gen : ∀ (ps r : List Int) (k : Nat), ((((ps.zipIdx k).map (pmP t0 y l)).zip r).map fun a => cnt a.1 * b2i (bit (pat a.1) (t + a.2))).sum = bearB y l (List.zipWith (· - ·) ps r) t := by
    intro ps
    induction ps with
    | nil => intro _ _; rfl
    | cons p ps ih =>
      intro r k
      cases r with
      | nil => simp; rfl
      | cons s r =>
        rw [List.zipIdx_cons, List.map_cons, List.zip_cons_cons, List.map_cons, List.sum_cons, ih r (k + 1), List.zipWith_cons_cons, bearB_sum y l _ (_ :: _), List.map_cons, List.sum_cons, ← bearB_sum]
        congr 1
        show 1 * b2i (bit (sgP y l p) (t + s)) = _
        rw [sgP_at h, Int.one_mul, show t + s - p = t - (p - s) by omega]
  exact gen ps r 0
/-- the evenest is what plants evenly spread reach -/
theorem evenest_agree (h : Life y l) (h6 : l ≤ 6) (hn : ps.length ≤ 5) (hne0 : ps ≠ []) (ht0 : 0 ≤ t0 ∧ t0 ≤ 999) : ∃ b, bestOf (gOf t0 y l ps) (shN (lens (gOf t0 y l ps))) = some b ∧ b.1 = (ps.length : Nat) * (l - y) / l := by
  have hl := h.pos
  have hlen : (lens (gOf t0 y l ps)).length = ps.length := by rw [lens_gOf h, List.length_map]
  let r : List Int := List.zipWith (fun p q => (p - q) % l) ps (evenP l (ps.length : Nat))
  have he : (evenP l (ps.length : Nat)).length = ps.length := by simp [evenP]
  have hr : r.length = ps.length := by simp [r, he]
  have hrm : r ∈ shN (lens (gOf t0 y l ps)) := by
    have := shN_mem (ls := lens (gOf t0 y l ps)) (lens (gOf t0 y l ps)).length (r := r) (Nat.le_refl _) (by omega) fun i x s hi h1 h2 => by
      rw [lens_gOf h, List.getElem?_map] at h1
      obtain ⟨_, _, rfl⟩ := Option.map_eq_some_iff.mp h1
      rw [List.getElem?_zipWith] at h2
      split at h2
      · cases h2
        exact ⟨Int.emod_nonneg _ (Int.ne_of_gt hl), Int.emod_lt_of_pos _ hl⟩
      · cases h2
    rwa [List.take_length] at this
  have hpos : 0 < (shN (lens (gOf t0 y l ps))).length := List.length_pos_of_mem hrm
  obtain ⟨b, e, h1, s, hs, h2⟩ := best_spec (g := gOf t0 y l ps) (shN (lens (gOf t0 y l ps))) _ (Nat.le_refl _) hpos
  rw [List.take_length] at e h1 hs
  refine ⟨b, e, Int.le_antisymm ?_ ?_⟩
  · rw [h2, sumsBy_gOf h]
    have hsl : s.length = ps.length := by
      have := (shN_sh (gOf_ok h h6 (by omega) hne0 ht0) hs).1
      rwa [gOf_ps] at this
    have hz : (List.zipWith (· - ·) ps s).length = ps.length := by simp [hsl]
    rw [← hz]
    refine worst h h6 fun t ht => mnL_le (List.mem_map.mpr ⟨t, by simp; omega, rfl⟩)
  · refine Int.le_trans ?_ (h1 r hrm)
    rw [sumsBy_gOf h]
    have hne : ov (bearB y l (List.zipWith (· - ·) ps r)) 60 ≠ [] := by
      intro z; have := congrArg List.length z; simp [ov] at this
    obtain ⟨t, ht, hte⟩ := List.mem_map.mp (mnL_mem hne)
    show _ ≤ mnL (List.map (fun t : Nat => bearB y l (List.zipWith (· - ·) ps r) ((t : Nat) : Int)) (List.range 60))
    rw [← hte]
    have hc : bearB y l (List.zipWith (· - ·) ps r) ((t : Nat) : Int) = bearB y l (evenP l (ps.length : Nat)) ((t : Nat) : Int) := by
      refine bearB_congr (by simp [hr, he]) fun i p q hp hq => ?_
      rw [List.getElem?_zipWith] at hp
      split at hp
      · rename_i a b ha hb
        cases hp
        simp only [r] at hb
        rw [List.getElem?_zipWith, ha, hq] at hb
        cases hb
        rw [Int.sub_emod, Int.emod_emod, ← Int.sub_emod, show a - (a - q) = q by omega]
      · cases hp
    rw [hc]
    exact even_ok h h6 hn _
theorem prod_gOf (h : Life y l) : ∀ n, n ≤ ps.length → prodL ((lens (gOf t0 y l ps)).take n) = l ^ n
  | 0, _ => by simp [prodL]
  | n + 1, hn => by
    have hx : (lens (gOf t0 y l ps))[n]? = some l := by
      rw [lens_gOf h, List.getElem?_map, List.getElem?_eq_getElem (by omega)]; rfl
    rw [take_snoc hx, prodL_snoc, prod_gOf h n (by omega), Int.pow_succ]
theorem best_ge (h : Life y l) (h6 : l ≤ 6) : mnL (rowsB y l ps) ≤ (ps.length : Nat) * (l - y) / l :=
  worst h h6 fun t ht => mnL_le (List.mem_map.mpr ⟨t, by simpa using ht, rfl⟩)
end

end K92

set_option Elab.async false
set_option linter.all false
set_option maxRecDepth 100000
set_option maxHeartbeats 4000000
set_option autoImplicit false
namespace K92
open PySem L2 Dm StX PyProof.Rows
/-! a grove's lines again: palms, males, grove_of -/
section
variable {g : O_Grove} {a b : Int}
theorem GrOk.ndm (h : GrOk g a b) : (g.own_males.map Prod.fst).Nodup := (List.nodup_append.mp h.nd).2.1
theorem S_palms (h : GrOk g a b) : F_Grove_palms g = some g.own_palms := by
  have hl := h.l1
  rw [F_Grove_palms, lcM_ofm Prod.fst (fun q : Str × Pm => (q.1, q.2.1, q.2.2.1, q.2.2.2.1, q.2.2.2.2.1, q.2.2.2.2.2)) (by omega) fun q hq => by rw [mGet_mem h.nd1 hq]; rfl, Option.bind_some]
  congr 1
  exact List.map_id _
theorem S_males (h : GrOk g a b) : F_Grove_males g = some g.own_males := by
  have hl := h.l2
  rw [F_Grove_males, lcM_ofm Prod.fst (fun q : Str × Mm => (q.1, q.2.1, q.2.2.1, q.2.2.2)) (by omega) fun q hq => by rw [mGet_mem h.ndm hq]; rfl, Option.bind_some]
  congr 1
  exact List.map_id _
theorem S_turns (h : GrOk g a b) : F_Grove_turns g = some a := by rw [F_Grove_turns, h.hd]; rfl
theorem S_hands (h : GrOk g a b) : F_Grove_hands g = some b := by rw [F_Grove_hands, h.hd]; rfl
theorem sum_len {m : Nat} : ∀ {ws : List Str}, (∀ w ∈ ws, w.length ≤ m) → (ws.map (·.length)).sum ≤ m * ws.length
  | [], _ => by simp
  | w :: ws, h => by
    have h1 := h w List.mem_cons_self
    have h2 := sum_len fun x hx => h x (List.mem_cons_of_mem _ hx)
    rw [List.map_cons, List.sum_cons, List.length_cons, Nat.mul_succ]; omega
theorem join_ok {c : Str} {ws : List Str} (hc : c.length = 1) (h : ∀ w ∈ ws, w.length ≤ 100) (hn : ws.length ≤ 100) : pyJoin c ws = some (Txt.join c ws) := by
  have := sum_len h
  have : 100 * ws.length ≤ 10000 := by omega
  unfold pyJoin; rw [if_pos (by rw [hc]; omega)]
theorem palmL_ok {x : Str × Pm} (h : NmOk x.1 ∧ PalmOk x.2) : (palmL x).length ≤ 100 := by
  have hh := words_palm h
  have hj := join_len (c := " ") (s := 32) (m := 8) (ws := [("palm" : Str), x.1, num x.2.1, num x.2.2.1, num x.2.2.2.1, x.2.2.2.2.1, num x.2.2.2.2.2]) rfl fun w hw => (hh w hw).2.2
  simp only [List.length_cons, List.length_nil] at hj
  show (Txt.join " " _).length ≤ 100
  omega
theorem maleL_ok {x : Str × Mm} (h : NmOk x.1 ∧ MaleOk x.2) : (maleL x).length ≤ 100 := by
  have hh := words_male h
  have hj := join_len (c := " ") (s := 32) (m := 8) (ws := [("male" : Str), x.1, num x.2.1, num x.2.2.1, num x.2.2.2]) rfl fun w hw => (hh w hw).2.2
  simp only [List.length_cons, List.length_nil] at hj
  show (Txt.join " " _).length ≤ 100
  omega
theorem headL_ok (ha : 1 ≤ a ∧ a ≤ 3) (hb : 1 ≤ b ∧ b ≤ 6) : (headL a b).length ≤ 100 := by
  have hh := words_head ha hb
  have hj := join_len (c := " ") (s := 32) (m := 8) (ws := [("grove" : Str), num a, num b]) rfl fun w hw => (hh w hw).2.2
  simp only [List.length_cons, List.length_nil] at hj
  show (Txt.join " " _).length ≤ 100
  omega
theorem strD_num {n : Int} (h0 : 0 ≤ n) (h1 : n < 1000) : pyStrD (.int n) = some (num n) := str_ok (by unfold Sm; omega)
theorem S_grove_of (h : GrOk g a b) (ht : g.own_text = gText a b g.own_palms g.own_males) : F_grove_of a b g.own_palms g.own_males = some g := by
  have ha := h.ha; have hb := h.hb; have l1 := h.l1; have l2 := h.l2
  have rowP : ∀ q ∈ g.own_palms, ((lcM (fun x12 => some true) (fun x12 => (pyStrD x12).bind fun v13 => some v13) [D.str q.1, D.int q.2.1, D.int q.2.2.1, D.int q.2.2.2.1, D.str q.2.2.2.2.1, D.int q.2.2.2.2.2]).bind fun l14 => (pyCat ([("palm" : Str)] : List Str) l14).bind fun v16 => (pyJoin (" " : Str) v16).bind fun v17 => some v17) = some (palmL q) := fun q hq => by
    have hp := h.pn q hq
    have hw := words_palm hp
    obtain ⟨hn, ⟨he, ho, ht', hot, hpp, hnn⟩⟩ := hp
    have e1 : lcM (fun x12 => some true) (fun x12 => (pyStrD x12).bind fun v13 => some v13) [D.str q.1, D.int q.2.1, D.int q.2.2.1, D.int q.2.2.2.1, D.str q.2.2.2.2.1, D.int q.2.2.2.2.2] = some [q.1, num q.2.1, num q.2.2.1, num q.2.2.2.1, q.2.2.2.2.1, num q.2.2.2.2.2] := by
      unfold lcM
      rw [if_pos (Nat.le_of_ble_eq_true rfl)]
      simp only [lcP, Option.bind_some, if_true, show ∀ z, pyStrD (.str z) = some z from fun _ => rfl, strD_num (show 0 ≤ q.2.1 by omega) (by omega), strD_num (show 0 ≤ q.2.2.1 by omega) (by omega), strD_num (show 0 ≤ q.2.2.2.1 by omega) (by omega), strD_num (show 0 ≤ q.2.2.2.2.2 by omega) (by omega), Option.map_some]
    rw [e1, Option.bind_some, cat_ok (by simp), Option.bind_some, join_ok rfl (fun w hh => by have := (hw w hh).2.2; omega) (by simp)]
    rfl
  have rowM : ∀ q ∈ g.own_males, ((lcM (fun x12 => some true) (fun x12 => (pyStrD x12).bind fun v13 => some v13) [D.str q.1, D.int q.2.1, D.int q.2.2.1, D.int q.2.2.2]).bind fun l14 => (pyCat ([("male" : Str)] : List Str) l14).bind fun v16 => (pyJoin (" " : Str) v16).bind fun v17 => some v17) = some (maleL q) := fun q hq => by
    have hp := h.mn q hq
    have hw := words_male hp
    obtain ⟨hn, ⟨ho, hl, hk⟩⟩ := hp
    have e1 : lcM (fun x12 => some true) (fun x12 => (pyStrD x12).bind fun v13 => some v13) [D.str q.1, D.int q.2.1, D.int q.2.2.1, D.int q.2.2.2] = some [q.1, num q.2.1, num q.2.2.1, num q.2.2.2] := by
      unfold lcM
      rw [if_pos (Nat.le_of_ble_eq_true rfl)]
      simp only [lcP, Option.bind_some, if_true, show ∀ z, pyStrD (.str z) = some z from fun _ => rfl, strD_num (show 0 ≤ q.2.1 by omega) (by omega), strD_num (show 0 ≤ q.2.2.1 by omega) (by omega), strD_num (show 0 ≤ q.2.2.2 by omega) (by omega), Option.map_some]
    rw [e1, Option.bind_some, cat_ok (by simp), Option.bind_some, join_ok rfl (fun w hh => by have := (hw w hh).2.2; omega) (by simp)]
    rfl
  have hh := words_head ha hb
  have each : ∀ w ∈ headL a b :: (g.own_palms.map palmL ++ g.own_males.map maleL), w.length ≤ 100 := by
    intro w hw
    rcases List.mem_cons.mp hw with rfl | hw
    · exact headL_ok ha hb
    · rcases List.mem_append.mp hw with hw | hw
      · obtain ⟨q, hq, rfl⟩ := List.mem_map.mp hw; exact palmL_ok (h.pn q hq)
      · obtain ⟨q, hq, rfl⟩ := List.mem_map.mp hw; exact maleL_ok (h.mn q hq)
  rw [F_grove_of, show Dm.pyStr a = some (num a) from str_ok (by unfold Sm; omega), Option.bind_some, show Dm.pyStr b = some (num b) from str_ok (by unfold Sm; omega), Option.bind_some,
    join_ok rfl (fun w hw => by have := (hh w hw).2.2; omega) (by simp), Option.bind_some]
  have eP : lcM (fun x11 => some true) (fun x11 => (lcM (fun x12 => some true) (fun x12 => (pyStrD x12).bind fun v13 => some v13) x11).bind fun l14 => (pyCat ([("palm" : Str)] : List Str) l14).bind fun v16 => (pyJoin (" " : Str) v16).bind fun v17 => some v17) (g.own_palms.map fun y1 : (Str × Int × Int × Int × Str × Int) => ([D.str y1.1, D.int y1.2.1, D.int y1.2.2.1, D.int y1.2.2.2.1, D.str y1.2.2.2.2.1, D.int y1.2.2.2.2.2] : List D)) = some (g.own_palms.map palmL) :=
    lcM_ofm (fun y1 : (Str × Int × Int × Int × Str × Int) => ([D.str y1.1, D.int y1.2.1, D.int y1.2.2.1, D.int y1.2.2.2.1, D.str y1.2.2.2.2.1, D.int y1.2.2.2.2.2] : List D)) palmL (by omega) rowP
  have eM : lcM (fun x11 => some true) (fun x11 => (lcM (fun x12 => some true) (fun x12 => (pyStrD x12).bind fun v13 => some v13) x11).bind fun l14 => (pyCat ([("male" : Str)] : List Str) l14).bind fun v16 => (pyJoin (" " : Str) v16).bind fun v17 => some v17) (g.own_males.map fun y1 : (Str × Int × Int × Int) => ([D.str y1.1, D.int y1.2.1, D.int y1.2.2.1, D.int y1.2.2.2] : List D)) = some (g.own_males.map maleL) :=
    lcM_ofm (fun y1 : (Str × Int × Int × Int) => ([D.str y1.1, D.int y1.2.1, D.int y1.2.2.1, D.int y1.2.2.2] : List D)) maleL (by omega) rowM
  rw [forL]
  dsimp only
  rw [eP, Option.bind_some, ext_ok (by rw [List.length_map]; simp; omega), Option.bind_some, Option.bind_some, forL]
  dsimp only
  rw [eM, Option.bind_some, ext_ok (by rw [List.length_append, List.length_map, List.length_map]; simp; omega), Option.bind_some, Option.bind_some, forL, Option.bind_some]
  have ej : ([Txt.join " " [("grove" : Str), num a, num b]] ++ g.own_palms.map palmL ++ g.own_males.map maleL) = headL a b :: (g.own_palms.map palmL ++ g.own_males.map maleL) := by rw [List.append_assoc]; rfl
  rw [ej, join_ok rfl each (by simp; omega), Option.bind_some, show Txt.join "\n" (headL a b :: (g.own_palms.map palmL ++ g.own_males.map maleL)) = g.own_text from ht.symm, S_make h ht]
  rfl
end

end K92

set_option Elab.async false
set_option linter.all false
set_option maxRecDepth 100000
set_option maxHeartbeats 4000000
set_option autoImplicit false
namespace K92
open PySem L2 Dm StX PyProof.Rows
/-! means, counts, enough, shifts -/
theorem gcd_step {a b : Int} : Int.gcd b (a % b) = Int.gcd a b := by rw [Int.emod_def, Int.gcd_sub_mul_left_right, Int.gcd_comm]
theorem gcd_loop : ∀ (m : Nat) (x y : Int), 0 ≤ x → 0 ≤ y → y.toNat ≤ m → whL (σ := Int × Int) (fun s5 => some (decide (s5.2 ≠ (0 : Int)))) (fun s5 => (pyMod s5.1 s5.2).bind fun v8 => some (s5.2, v8)) (m + 1) (x, y) = some (((Int.gcd x y : Nat) : Int), 0)
  | m, x, y, hx, hy, hm => by
    rw [whL, Option.bind_some]
    by_cases h0 : y = 0
    · subst h0
      rw [if_neg (by simp), Int.gcd_zero_right]
      congr 2
      omega
    · rw [if_pos (by simpa using h0), mod_ok (show (0 : Int) < y by omega), Option.bind_some, Option.bind_some]
      have m1 := Int.emod_nonneg x h0
      have m2 := Int.emod_lt_of_pos x (show (0 : Int) < y by omega)
      cases m with
      | zero => omega
      | succ m =>
        rw [gcd_loop m y (x % y) hy m1 (by omega), gcd_step]
theorem S_common {a b : Int} (ha : 0 ≤ a) (hb : 0 ≤ b ∧ b ≤ 1000000) : F_common a b = some ((Int.gcd a b : Nat) : Int) := by
  have h := whL_mono (gcd_loop b.toNat a b ha hb.1 (Nat.le_refl _)) (m := fuel) (by unfold fuel; omega)
  rw [F_common, h, Option.bind_some]
  simp
theorem S_reduced {a b : Int} (ha : 0 ≤ a) (hb : 1 ≤ b ∧ b ≤ 1000000) : F_reduced a b = some (a / (Int.gcd a b : Nat), b / (Int.gcd a b : Nat)) := by
  have hg : (0 : Int) < (Int.gcd a b : Nat) := by
    have : 0 < Int.gcd a b := Int.gcd_pos_iff.mpr (.inr (by omega))
    omega
  have hle : ((Int.gcd a b : Nat) : Int) ≤ b := Int.le_of_dvd (by omega) (Int.gcd_dvd_right ..)
  rw [F_reduced, if_pos (by rw [decide_eq_true_eq]; omega), S_common ha ⟨by omega, by omega⟩, Option.bind_some, Option.bind_some, div_ok hg (by unfold Sm; omega), Option.bind_some, div_ok hg (by unfold Sm; omega)]; rfl
section
variable {g : O_Grove} {a b : Int}
theorem S_mean (h : GrOk g a b) (h0 : 0 ≤ (sums g).sum) : F_mean_baskets g = some ((sums g).sum / ((Int.gcd (sums g).sum 60 : Nat) : Int), (60 : Int) / ((Int.gcd (sums g).sum 60 : Nat) : Int)) := by
  rw [F_mean_baskets, S_check_grove, Option.bind_some, S_sums_of h, Option.bind_some, S_reduced h0 (by omega)]; rfl
theorem S_how_many (h : GrOk g a b) {n : Int} (hn : 0 ≤ n ∧ n ≤ 9999) : F_how_many_with g n = some ((((sums g).filter fun x => decide (n ≤ x)).length : Nat) : Int) := by
  rw [F_how_many_with, F_check_baskets, S_check_grove, Option.bind_some, S_in hn, Option.bind_some, if_neg (by simp), Option.bind_some, S_sums_of h, Option.bind_some, lcM_filter (fun x => decide (n ≤ x)) (by rw [sums, List.length_map, rngI_len]; omega) fun x _ => rfl]; rfl
end
theorem S_enough {y l n m : Int} (h : Life y l) (hn : 0 < n ∧ n ≤ 60) (hm : m ≤ 60) (hle : n * l ≤ m * (l - y)) : ∃ v p, F_enough_plants (y, l) n = some (v, p) ∧ v ≤ m := by
  have h0 := h.pos; have h1 := h.l60; have h2 := h.y0; have h3 := h.yl
  have nb : 0 ≤ n * l ∧ n * l ≤ 60 * 60 := ⟨Int.mul_nonneg (by omega) (by omega), Int.mul_le_mul (by omega) (by omega) (by omega) (by omega)⟩
  have np : 0 < n * l := Int.mul_pos hn.1 h0
  have k1 : -m ≤ (0 - n * l) / (l - y) := (Int.le_ediv_iff_mul_le (by omega)).mpr (by rw [Int.neg_mul]; omega)
  have k2 : (0 - n * l) / (l - y) < 0 := Int.ediv_neg_of_neg_of_pos (by omega) (by omega)
  have e : F_check_enough (y, l) n = some (0 - (0 - n * l) / (l - y)) := by
    rw [F_check_enough, S_check_life h, Option.bind_some, S_check_number ⟨by omega, by omega⟩, Option.bind_some]
    show (pyMul n l).bind _ = _
    rw [mul_ok (by unfold Sm; omega) (by unfold Sm; omega), Option.bind_some]
    show (pyDiv (0 - n * l) (l - y)).bind _ = _
    rw [div_ok (by omega) (by unfold Sm; omega), Option.bind_some, if_neg (by rw [decide_eq_true_eq]; omega)]
  refine ⟨0 - (0 - n * l) / (l - y), evenP l (0 - (0 - n * l) / (l - y)), ?_, by omega⟩
  rw [F_enough_plants, e, Option.bind_some, S_even_plants h ⟨by omega, by omega⟩]; rfl
/-! shifts of a life's grove -/
def rotB (l y p : Nat) : Bool := decide (pySlS (sgP (y : Nat) (l : Nat) 0) (some (((l : Int) - (p : Int)) % (l : Int))) none = some (cutS (sgP (y : Nat) (l : Nat) 0) (some (((l : Int) - (p : Int)) % (l : Int))) none)) &&
  decide (cutS (sgP (y : Nat) (l : Nat) 0) (some (((l : Int) - (p : Int)) % (l : Int))) none ++ cutS (sgP (y : Nat) (l : Nat) 0) none (some (((l : Int) - (p : Int)) % (l : Int))) = sgP (y : Nat) (l : Nat) (p : Nat))
theorem rot_all : ∀ l < 7, ∀ y < l, ∀ p < l, rotB l y p = true := by decide +kernel
theorem rot {y l p : Int} (h : Life y l) (h6 : l ≤ 6) (hp : 0 ≤ p ∧ p < l) : cutS (sgP y l 0) (some ((l - p) % l)) none ++ cutS (sgP y l 0) none (some ((l - p) % l)) = sgP y l p := by
  have h0 := h.pos; have h2 := h.y0; have h3 := h.yl
  have := rot_all l.toNat (by omega) y.toNat (by omega) p.toNat (by omega)
  unfold rotB at this
  rw [Bool.and_eq_true] at this
  have := of_decide_eq_true this.2
  rwa [show ((l.toNat : Nat) : Int) = l by omega, show ((y.toNat : Nat) : Int) = y by omega, show ((p.toNat : Nat) : Int) = p by omega] at this
section
variable {y l : Int} {ps : List Int}
def sft (l : Int) (ps : List Int) : List Int := ps.map fun p => (l - p) % l
theorem S_are_shifts (h : Life y l) (h6 : l ≤ 6) (hl : ps.length ≤ 6) (hne : ps ≠ []) : F_are_shifts (gOf 0 y l (ps.map fun _ => 0)) (sft l ps) = some true := by
  have hl0 := h.pos
  have ok := gOf_ok (t0 := 0) h h6 (ps := ps.map fun _ => 0) (by rw [List.length_map]; exact hl) (by simpa using hne) (by decide)
  have e1 : (gOf 0 y l (ps.map fun _ => 0)).own_palms.length = ps.length := by rw [gOf_ps, List.length_map]
  rw [F_are_shifts, if_neg (by simp), S_palms ok, Option.bind_some, e1, Option.bind_some, if_neg (by simp [sft]), S_lengths_of ok, Option.bind_some, lens_gOf h]
  have hz : (sft l ps).zip ((ps.map fun _ => (0 : Int)).map fun _ => l) = ps.map fun p => ((l - p) % l, l) := by
    unfold sft
    clear hl hne ok e1
    induction ps with
    | nil => rfl
    | cons p ps ih => simp only [List.map_cons, List.zip_cons_cons, ih]
  rw [hz, lcM_ofm (fun p : Int => ((l - p) % l, l)) (fun _ => true) (by omega) fun p _ => by
    have m1 := Int.emod_nonneg (l - p) (Int.ne_of_gt hl0)
    have m2 := Int.emod_lt_of_pos (l - p) hl0
    rw [S_in ⟨m1, by show (l - p) % l ≤ l - 1; omega⟩]; rfl, Option.bind_some]
  simp
theorem S_shifted (h : Life y l) (h6 : l ≤ 6) (hl : ps.length ≤ 6) (hne : ps ≠ []) (hb : ∀ p ∈ ps, 0 ≤ p ∧ p < l) : F_shifted (gOf 0 y l (ps.map fun _ => 0)) (sft l ps) = some (gOf 0 y l ps) := by
  have hl0 := h.pos
  have ok := gOf_ok (t0 := 0) h h6 (ps := ps.map fun _ => 0) (by rw [List.length_map]; exact hl) (by simpa using hne) (by decide)
  have ok2 := gOf_ok (t0 := 0) h h6 (ps := ps) hl hne (by decide)
  have hsl := sgP_len (y := y) (p := 0) hl0
  have hz : (gOf 0 y l (ps.map fun _ => 0)).own_palms.zip (sft l ps) = ps.zipIdx.map fun q : Int × Nat => (pmP 0 y l (0, q.2), (l - q.1) % l) := by
    show (palmsP 0 y l (ps.map fun _ => 0)).zip (sft l ps) = _
    unfold palmsP sft
    have gen : ∀ (ps : List Int) (k : Nat), (((ps.map fun _ => (0 : Int)).zipIdx k).map (pmP 0 y l)).zip (ps.map fun p => (l - p) % l) = (ps.zipIdx k).map fun q : Int × Nat => (pmP 0 y l (0, q.2), (l - q.1) % l) := by
      intro ps
      induction ps with
      | nil => intro _; rfl
      | cons p ps ih => intro k; simp only [List.map_cons, List.zipIdx_cons, List.zip_cons_cons, ih (k + 1)]
    exact gen ps 0
  have loop : ∀ {body : (Str × Int × Int × Int × Str × Int) × Int → List (Str × Int × Int × Int × Str × Int) → Option (List (Str × Int × Int × Int × Str × Int))}, (∀ q ∈ ps.zipIdx, ∀ s : List (Str × Pm), s.length ≤ 1000 → body (pmP 0 y l (0, q.2), (l - q.1) % l) s = some (s ++ [pmP 0 y l q])) → forL body (ps.zipIdx.map fun q : Int × Nat => (pmP 0 y l (0, q.2), (l - q.1) % l)) [] = some (palmsP 0 y l ps) := by
    intro body hbody
    have := loop_app (body := fun (q : Int × Nat) s => body (pmP 0 y l (0, q.2), (l - q.1) % l) s) (pmP 0 y l) (l := ps.zipIdx) (by simp; omega) hbody
    unfold palmsP
    rw [← this]
    have gen : ∀ (L : List (Int × Nat)) (s : List (Str × Pm)), forL body (L.map fun q : Int × Nat => (pmP 0 y l (0, q.2), (l - q.1) % l)) s = forL (fun (q : Int × Nat) s => body (pmP 0 y l (0, q.2), (l - q.1) % l) s) L s := by
      intro L
      induction L with
      | nil => intro s; rfl
      | cons x xs ih => intro s; rw [List.map_cons, forL, forL]; congr 1; funext s'; exact ih s'
    exact gen _ _
  rw [F_shifted, S_check_grove, Option.bind_some, S_are_shifts h h6 hl hne, Option.bind_some, if_neg (by simp), F_shifted_by, S_palms ok, Option.bind_some, hz, loop fun q hq s hs => ?_]
  · rw [Option.bind_some, S_turns ok, Option.bind_some, S_hands ok, Option.bind_some, S_males ok, Option.bind_some]
    have := S_grove_of ok2 rfl
    show ((F_grove_of 1 1 (palmsP 0 y l ps) []).bind _).bind _ = _
    rw [show F_grove_of 1 1 (palmsP 0 y l ps) [] = some (gOf 0 y l ps) from this]; rfl
  · have hq1 : q.1 ∈ ps := by
      obtain ⟨p, i⟩ := q
      obtain ⟨_, hi, e⟩ := List.mem_zipIdx hq
      simp at e
      rw [e]; exact List.getElem_mem _
    have hpb := hb q.1 hq1
    have e1 : pySlS (sgP y l 0) (some ((l - q.1) % l)) none = some (cutS (sgP y l 0) (some ((l - q.1) % l)) none) := by unfold pySlS; rw [if_pos (by omega)]
    have e2 : pySlS (sgP y l 0) none (some ((l - q.1) % l)) = some (cutS (sgP y l 0) none (some ((l - q.1) % l))) := by unfold pySlS; rw [if_pos (by omega)]
    have e3 := rot h h6 hpb
    have e4 := sgP_len (y := y) (p := q.1) hl0
    have e5 : (cutS (sgP y l 0) (some ((l - q.1) % l)) none).length + (cutS (sgP y l 0) none (some ((l - q.1) % l))).length ≤ 1000000 := by
      have := congrArg TL.tl e3
      have := congrArg List.length this
      rw [TL.tl_append, List.length_append, ← TL.len_tl, ← TL.len_tl, ← TL.len_tl] at this
      omega
    show (pySlS (sgP y l 0) (some ((l - q.1) % l)) none).bind _ = _
    rw [e1, Option.bind_some]
    show (pySlS (sgP y l 0) none (some ((l - q.1) % l))).bind _ = _
    rw [e2, Option.bind_some, catS_ok e5, Option.bind_some, e3, Dm.app_ok (by omega)]
    rfl
end

end K92

set_option Elab.async false
set_option linter.all false
set_option maxRecDepth 100000
set_option maxHeartbeats 4000000
set_option autoImplicit false
namespace K92
open PySem L2 Dm StX PyProof.Rows
/-! the law's own parts -/
structure PotOk (n : Int) (x : List Int) : Prop where
  ex : ∃ a b c : Int, x = [a, b, c] ∧ 0 ≤ a ∧ (0 ≤ b ∧ b ≤ 2305843009213693951) ∧ 0 ≤ c ∧ c ≤ n
theorem PotOk.mono {n m : Int} {x : List Int} (h : PotOk n x) (hm : n ≤ m) : PotOk m x := by
  obtain ⟨a, b, c, h1, h2, h3, h4, h5⟩ := h.ex
  exact ⟨a, b, c, h1, h2, h3, h4, by omega⟩
theorem ix3_0 {a b c : Int} : pyIx [a, b, c] 0 = some a := ix_nat (i := 0) rfl
theorem ix3_1 {a b c : Int} : pyIx [a, b, c] 1 = some b := ix_nat (i := 1) rfl
theorem ix3_2 {a b c : Int} : pyIx [a, b, c] 2 = some c := ix_nat (i := 2) rfl
theorem set3_0 {a b c v : Int} : pySetL [a, b, c] 0 v = some [v, b, c] := set_ok (k := 0) (by simp)
theorem set3_2 {a b c v : Int} : pySetL [a, b, c] 2 v = some [a, b, v] := set_ok (k := 2) (by simp)
theorem primes5 {m : Int} (h : 0 ≤ m ∧ m < 5) : ∃ p, pyIx ([(2147483647 : Int), (2147483629 : Int), (2147483587 : Int), (2147483579 : Int), (2147483563 : Int)] : List Int) m = some p ∧ 0 < p ∧ p ≤ 2147483647 := by
  have : m = 0 ∨ m = 1 ∨ m = 2 ∨ m = 3 ∨ m = 4 := by omega
  rcases this with rfl | rfl | rfl | rfl | rfl
  · exact ⟨_, ix_nat (i := 0) rfl, by decide, by decide⟩
  · exact ⟨_, ix_nat (i := 1) rfl, by decide, by decide⟩
  · exact ⟨_, ix_nat (i := 2) rfl, by decide, by decide⟩
  · exact ⟨_, ix_nat (i := 3) rfl, by decide, by decide⟩
  · exact ⟨_, ix_nat (i := 4) rfl, by decide, by decide⟩
theorem sq_bd {c m : Int} (h : 0 ≤ c ∧ c ≤ m) : 0 ≤ c * c ∧ c * c ≤ m * m := ⟨Int.mul_nonneg h.1 h.1, Int.mul_le_mul h.2 h.2 h.1 (by omega)⟩
theorem S_take {n : Int} {x : List Int} {u : Int} (h : PotOk n x) (hn : n ≤ 1000) (hu : 1 ≤ u ∧ u ≤ 100000) : ∃ v x', F__law_take x u = some (v, x') ∧ 0 ≤ v ∧ v < u ∧ PotOk (n + 1) x' := by
  obtain ⟨a, b, c, rfl, ha, hb, hc0, hc1⟩ := h.ex
  by_cases h0 : 0 < a
  · refine ⟨a % u, [a / u, b, c], ?_, Int.emod_nonneg _ (by omega), Int.emod_lt_of_pos _ (by omega), ⟨_, _, _, rfl, Int.ediv_nonneg ha (by omega), hb, hc0, by omega⟩⟩
    rw [F__law_take]
    simp only [ix3_0, Option.bind_some]
    rw [if_pos (by simpa using h0), mod_ok (by omega), Option.bind_some, div_ok (by omega) (by unfold Sm; omega), Option.bind_some, set3_0, Option.bind_some]
  · have m5 := Int.emod_nonneg (c + 1) (b := 5) (by decide)
    have m5' := Int.emod_lt_of_pos (c + 1) (b := 5) (by decide)
    obtain ⟨p, hp, hp0, hp1⟩ := primes5 ⟨m5, m5'⟩
    have hsq := sq_bd (c := c + 1) (m := 1001) ⟨by omega, by omega⟩
    have e1 : 103155 * (c + 1) * (c + 1) = 103155 * ((c + 1) * (c + 1)) := Int.mul_assoc ..
    have p1 : pyPow (b + 103155 * (c + 1) * (c + 1) + 4294) 3 = some ((b + 103155 * (c + 1) * (c + 1) + 4294) ^ (3 : Int).toNat) := powS (by rw [e1]; unfold Sm; omega) (by decide) (by decide)
    generalize hP : (b + 103155 * (c + 1) * (c + 1) + 4294) ^ (3 : Int).toNat = P at p1
    have b1 := Int.emod_nonneg P (b := p) (by omega)
    have b2 := Int.emod_lt_of_pos P hp0
    have b3 := Int.emod_nonneg (P % p) (b := 20195) (by decide)
    have b4 := Int.emod_lt_of_pos (P % p) (b := 20195) (by decide)
    refine ⟨P % p * (P % p % 20195 + 100 * (c + 1)) % 2305843009213693907 / 128 % u, [a, b, c + 1], ?_, Int.emod_nonneg _ (by omega), Int.emod_lt_of_pos _ (by omega), ⟨_, _, _, rfl, ha, hb, by omega, by omega⟩⟩
    rw [F__law_take]
    simp only [ix3_0, Option.bind_some]
    rw [if_neg (by simpa using h0), ix3_2, Option.bind_some, set3_2, Option.bind_some]
    simp only [ix3_2, ix3_1, Option.bind_some]
    rw [mod_ok (by decide), Option.bind_some, hp, Option.bind_some, mul_ok (by unfold Sm; omega) (by unfold Sm; omega), Option.bind_some, mul_ok (by unfold Sm; omega) (by unfold Sm; omega), Option.bind_some, p1, Option.bind_some,
      mod_ok hp0, Option.bind_some, mod_ok (by decide), Option.bind_some, mul_ok (by unfold Sm; omega) (by unfold Sm; omega), Option.bind_some, mul_ok (by unfold Sm; omega) (by unfold Sm; omega), Option.bind_some,
      mod_ok (by decide), Option.bind_some, div_ok (by decide) (by unfold Sm; omega), Option.bind_some, mod_ok (by omega), Option.bind_some]
theorem S_pot {ns : List Int} {i : Nat} (hi : i ≤ 100) : ∃ x, F__law_pot ns (i : Nat) = some x ∧ PotOk 0 x := by
  obtain ⟨cell, hc⟩ : ∃ cell, (if (decide (((i : Nat) : Int) < (ns.length : Int))) = true then (pyIx ns (i : Nat)).bind fun v1 => some v1 else (pyMod (((cutL ns none (some ((1 : Int))))).sum) ((1000003 : Int))).bind fun v2 => (pyMul ((13144 : Int)) (i : Nat)).bind fun v3 => some (((v2 + v3) + (11194 : Int)))) = some cell := by
    by_cases h : i < ns.length
    · refine ⟨ns[i], ?_⟩
      rw [if_pos (by simpa using h), ix_nat (List.getElem?_eq_getElem h)]; rfl
    · refine ⟨(cutL ns none (some 1)).sum % 1000003 + 13144 * ((i : Nat) : Int) + 11194, ?_⟩
      rw [if_neg (by simpa using h), mod_ok (by decide), Option.bind_some, mul_ok (by unfold Sm; omega) (by unfold Sm; omega)]; rfl
  have p1 : pyPow 10 60 = some ((10 : Int) ^ (60 : Int).toNat) := powS (by unfold Sm; omega) (by decide) (by decide)
  have p2 : pyPow ((10 : Int) ^ (60 : Int).toNat) 5 = some (((10 : Int) ^ (60 : Int).toNat) ^ (5 : Int).toNat) := pow_ok (by decide) (by decide +kernel)
  have p3 : pyPow 10 18 = some ((10 : Int) ^ (18 : Int).toNat) := powS (by unfold Sm; omega) (by decide) (by decide)
  have p4 : (0 : Int) < ((10 : Int) ^ (60 : Int).toNat) ^ (5 : Int).toNat := by decide +kernel
  have p5 : ((10 : Int) ^ (60 : Int).toNat) ^ (5 : Int).toNat < ((2 ^ (999 + 1) : Nat) : Int) := by decide +kernel
  generalize hB : ((10 : Int) ^ (60 : Int).toNat) ^ (5 : Int).toNat = B at p2 p4 p5
  generalize hC : (10 : Int) ^ (18 : Int).toNat = C at p3
  have n1 := Int.emod_nonneg (cell.natAbs : Int) (Int.ne_of_gt p4)
  have n2 := Int.emod_lt_of_pos (cell.natAbs : Int) p4
  have l1 := log_le (k := 999) n1 (by omega)
  have n3 := Int.emod_nonneg cell (b := 2305843009213693951) (by decide)
  have n4 := Int.emod_lt_of_pos cell (b := 2305843009213693951) (by decide)
  have hsq := sq_bd (c := ((i : Nat) : Int)) (m := 100) (by omega)
  have own : ∃ o, pyMul ((cell.natAbs : Int) % B) (if (decide (C ≤ (cell.natAbs : Int))) = true then 1 else 0) = some o ∧ 0 ≤ o := by
    by_cases h : C ≤ (cell.natAbs : Int)
    · rw [if_pos (by simpa using h)]
      refine ⟨(cell.natAbs : Int) % B * 1, ?_, by omega⟩
      unfold pyMul
      rw [if_pos (by
        have : (1 : Int).natAbs.log2 = 0 := by decide
        omega)]
    · rw [if_neg (by simpa using h)]
      refine ⟨(cell.natAbs : Int) % B * 0, ?_, by omega⟩
      unfold pyMul
      rw [if_pos (by
        have : (0 : Int).natAbs.log2 = 0 := by decide
        omega)]
  obtain ⟨o, ho, ho0⟩ := own
  refine ⟨[o, (cell % 2305843009213693951 * 97096 + 10856 * (i : Nat) * (i : Nat) + 4294) % 2305843009213693921, 0], ?_, ⟨_, _, _, rfl, ho0, ⟨Int.emod_nonneg _ (by decide), ?_⟩, by decide, by decide⟩⟩
  · rw [F__law_pot, hc, Option.bind_some, p1, Option.bind_some, p2, Option.bind_some, mod_ok p4, Option.bind_some, p3, Option.bind_some, ho, Option.bind_some, mod_ok (by decide), Option.bind_some, mul_ok (by unfold Sm; omega) (by unfold Sm; omega), Option.bind_some,
      mul_ok (by unfold Sm; omega) (by unfold Sm; omega), Option.bind_some, mul_ok (by unfold Sm; omega) (by unfold Sm; omega), Option.bind_some, mod_ok (by decide), Option.bind_some]
  · have := Int.emod_lt_of_pos (cell % 2305843009213693951 * 97096 + 10856 * (i : Nat) * (i : Nat) + 4294) (b := 2305843009213693921) (by decide)
    omega
theorem S_cells {ns : List Int} : F__law_cells ns 2 = some (rngI (max 1 (min 2 (ns.length : Int)))) := by
  rw [F__law_cells, lrng_ok (by omega) (by omega)]; rfl

end K92

set_option Elab.async false
set_option linter.all false
set_option maxRecDepth 100000
set_option maxHeartbeats 4000000
set_option autoImplicit false
namespace K92
open PySem L2 Dm StX PyProof.Rows
/-! one turn of the law; the law -/
theorem first_ix {α : Type} (f : α → Int) (m : Int) : ∀ {L : List α} {a : α} {r : List α}, (L.filter fun t => decide (f t = m)) = a :: r → ∃ i, L[i]? = some a ∧ (L.map f).idxOf m = i
  | [], a, r, h => by simp at h
  | x :: xs, a, r, h => by
    rw [List.filter_cons] at h
    by_cases hx : f x = m
    · rw [if_pos (by simpa using hx)] at h
      injection h with h1 h2
      subst h1
      exact ⟨0, rfl, by rw [List.map_cons, hx, List.idxOf_cons_self]⟩
    · rw [if_neg (by simpa using hx)] at h
      obtain ⟨i, h1, h2⟩ := first_ix f m h
      refine ⟨i + 1, by simpa using h1, ?_⟩
      rw [List.map_cons, List.idxOf_cons, h2, show (f x == m) = false by simpa using hx]; rfl
theorem rng_at {n : Int} {i : Nat} {a : Int} (h : (rngI n)[i]? = some a) : a = (i : Nat) := by
  unfold rngI at h
  rw [List.getElem?_map] at h
  obtain ⟨j, hj, rfl⟩ := Option.map_eq_some_iff.mp h
  have hl := (List.getElem?_eq_some_iff.mp hj).1
  rw [List.length_range] at hl
  rw [List.getElem?_range hl] at hj
  rw [Option.some.inj hj]
section
variable {y l : Int} {ps : List Int}
theorem all_iff (h : Life y l) (h6 : l ≤ 6) : yearsAll (gOf 0 y l ps).own_palms ≠ [] ↔ mxL (rowsB y l ps) = (ps.length : Nat) := by
  have P := perB h ps
  have e := mx_agree (t0 := 0) (ps := ps) h h6
  rw [sums_eq h] at e
  rw [years_agree h, ← e]
  constructor
  · intro hne
    obtain ⟨t, ht⟩ := List.exists_mem_of_ne_nil _ hne
    obtain ⟨ht, hb⟩ := List.mem_filter.mp ht
    have ht := mem_rngI.mp ht
    obtain ⟨k, rfl⟩ := Int.eq_ofNat_of_zero_le ht.1
    refine mx_eq (List.mem_map.mpr ⟨k, by simp; omega, by simpa using hb⟩) fun x hx => ?_
    obtain ⟨t, _, rfl⟩ := List.mem_map.mp hx
    exact bearB_bd.2
  · intro hm hnil
    have hne : ov (bearB y l ps) 60 ≠ [] := by intro z; have := congrArg List.length z; simp [ov] at this
    have hmem := mxL_mem hne
    rw [hm] at hmem
    obtain ⟨k, hk, hke⟩ := List.mem_map.mp hmem
    have : ((k : Nat) : Int) ∈ (rngI 60).filter fun t => decide (bearB y l ps t = (ps.length : Nat)) := List.mem_filter.mpr ⟨mem_rngI.mpr (by simp at hk; omega), by simpa using hke⟩
    rw [hnil] at this
    simp at this
theorem none_iff (h : Life y l) (h6 : l ≤ 6) : yearsNo (gOf 0 y l ps).own_palms ≠ [] ↔ mnL (rowsB y l ps) = 0 := by
  have P := perB h ps
  have e := mn_agree (t0 := 0) (ps := ps) h h6
  rw [sums_eq h] at e
  rw [yearsNo_agree h, ← e]
  constructor
  · intro hne
    obtain ⟨t, ht⟩ := List.exists_mem_of_ne_nil _ hne
    obtain ⟨ht, hb⟩ := List.mem_filter.mp ht
    have ht := mem_rngI.mp ht
    obtain ⟨k, rfl⟩ := Int.eq_ofNat_of_zero_le ht.1
    refine mn_eq (List.mem_map.mpr ⟨k, by simp; omega, by simpa using hb⟩) fun x hx => ?_
    obtain ⟨t, _, rfl⟩ := List.mem_map.mp hx
    exact bearB_bd.1
  · intro hm hnil
    have hne : ov (bearB y l ps) 60 ≠ [] := by intro z; have := congrArg List.length z; simp [ov] at this
    have hmem := mnL_mem hne
    rw [hm] at hmem
    obtain ⟨k, hk, hke⟩ := List.mem_map.mp hmem
    have : ((k : Nat) : Int) ∈ (rngI 60).filter fun t => decide (bearB y l ps t = 0) := List.mem_filter.mpr ⟨mem_rngI.mpr (by simp at hk; omega), by simpa using hke⟩
    rw [hnil] at this
    simp at this
theorem first_year (h : Life y l) (h6 : l ≤ 6) (hm : mxL (rowsB y l ps) = (ps.length : Nat)) {y0 : Int} {ys : List Int} (e : yearsAll (gOf 0 y l ps).own_palms = y0 :: ys) : y0 = (((rowsB y l ps).idxOf (mxL (rowsB y l ps)) : Nat) : Int) := by
  rw [years_agree h] at e
  obtain ⟨i, h1, h2⟩ := first_ix (bearB y l ps) (ps.length : Nat) e
  rw [rng_at h1, ← mxi_agree (t0 := 0) h h6, sums_eq h, hm, ← h2]
  congr 2
theorem best_even (h : Life y l) (h6 : l ≤ 6) {m : Nat} (hm : m ≤ 5) : mnL (rowsB y l (evenP l (m : Nat))) = (m : Int) * (l - y) / l := by
  have hlen : (evenP l (m : Nat)).length = m := by simp [evenP]
  refine Int.le_antisymm ?_ ?_
  · have := best_ge (ps := evenP l (m : Nat)) h h6
    rwa [hlen] at this
  · have hmem := mnL_mem (rowsB_ne (ps := evenP l (m : Nat)) h)
    obtain ⟨t, _, e⟩ := List.mem_map.mp hmem
    rw [← e]
    exact even_ok h h6 hm _
end
theorem pyEq_ss {a b : Str} (h1 : PyData.strOk a = true) (h2 : PyData.strOk b = true) : pyEq (.str a) (.str b) = some (decide (a = b)) := by
  rw [eq_ok rfl rfl (by show (PyData.strOk a && _) = true; rw [h1]; rfl) (by show (PyData.strOk b && _) = true; rw [h2]; rfl)]
  exact congrArg some eqv_str
theorem ixD0 {d : D} {ds : List D} : pyIxD (.tup (d :: ds)) 0 = some d := atI_nat (j := 0) rfl
theorem ixD1 {d d1 : D} {ds : List D} : pyIxD (.tup (d :: d1 :: ds)) 1 = some d1 := atI_nat (j := 1) rfl
theorem yy : pyEq (.str ("year" : Str)) (.str ("year" : Str)) = some true := by decide +kernel
theorem ny : pyEq (.str ("never" : Str)) (.str ("year" : Str)) = some false := by decide +kernel
theorem ay : pyEq (.str ("always" : Str)) (.str ("year" : Str)) = some false := by decide +kernel
theorem count_all {f : Int → Bool} {L : List Int} (h : ∀ x ∈ L, f x = true) : (L.filter f).length = L.length := by rw [List.filter_eq_self.mpr h]
theorem zip_rep {m : Nat} : (List.replicate m (0 : Int)).zipIdx = (List.range m).map fun i => ((0 : Int), i) := by
  refine List.ext_getElem? fun i => ?_
  rw [List.getElem?_zipIdx, List.getElem?_map]
  by_cases h : i < m
  · rw [List.getElem?_range h, List.getElem?_replicate, if_pos h]; simp
  · rw [List.getElem?_eq_none (by simpa using h), List.getElem?_eq_none (by simpa using h)]; rfl
def sgnB (l y : Nat) : Bool := decide (strRep ("0" : Str) (y : Nat) ++ strRep ("1" : Str) ((l : Int) - (y : Int)) = sgP (y : Nat) (l : Nat) 0)
theorem sgn_all : ∀ l < 7, ∀ y < l, sgnB l y = true := by decide +kernel
theorem sgn {y l : Int} (h : Life y l) (h6 : l ≤ 6) : strRep ("0" : Str) y ++ strRep ("1" : Str) (l - y) = sgP y l 0 := by
  have h0 := h.pos; have h2 := h.y0; have h3 := h.yl
  have := sgn_all l.toNat (by omega) y.toNat (by omega)
  unfold sgnB at this
  have := of_decide_eq_true this
  rwa [show ((l.toNat : Nat) : Int) = l by omega, show ((y.toNat : Nat) : Int) = y by omega] at this
theorem num9 : num 9 = ("9" : Str) := by decide +kernel
theorem num0 : num 0 = ("0" : Str) := by decide +kernel
theorem num1 : num 1 = ("1" : Str) := by decide +kernel
theorem head11 : headL 1 1 = ("grove 1 1" : Str) := by decide +kernel
theorem len_app (x y : Str) : (x ++ y).length = x.length + y.length := by rw [TL.len_tl, TL.len_tl, TL.len_tl, TL.tl_append, List.length_append]
theorem line_eq (nm w : Str) : ("palm " : Str) ++ nm ++ (" 9 0 0 " : Str) ++ w ++ (" 1" : Str) = Txt.join " " [("palm" : Str), nm, ("9" : Str), ("0" : Str), ("0" : Str), w, ("1" : Str)] := by
  apply TL.ext_tl
  rw [TL.join_eq, TL.tl_join]
  simp only [TL.tl_append, List.map_cons, List.map_nil, TL.joinL]
  generalize TL.tl nm = z
  generalize TL.tl w = u
  show _ = _
  simp [TL.tl_ofString]
/-- the grove, told by its lines -/
theorem S_told {y l : Int} (h : Life y l) (h6 : l ≤ 6) {m : Nat} (m1 : 1 ≤ m) (m5 : m ≤ 5) : ∃ l18, lcM (fun x13 => some true) (fun x13 => (pyCatS ("palm " : Str) x13).bind fun v14 => (pyCatS v14 (" 9 0 0 " : Str)).bind fun v15 => (pyCatS v15 (sgP y l 0)).bind fun v16 => (pyCatS v16 (" 1" : Str)).bind fun v17 => some v17) ((List.range m).map nmP) = some l18 ∧
    ∃ v20 v21, pyCat [("grove 1 1" : Str)] l18 = some v20 ∧ pyJoin ("\n" : Str) v20 = some v21 ∧ F_Grove___init__ v21 = some ((), gOf 0 y l (List.replicate m 0)) := by
  have hl := h.pos
  have hne : List.replicate m (0 : Int) ≠ [] := by intro z; have := congrArg List.length z; simp at this; omega
  have ok := gOf_ok (t0 := 0) h h6 (ps := List.replicate m 0) (by simp; omega) hne (by decide)
  have hsl := sgP_len (y := y) (p := 0) hl
  have pe : palmsP 0 y l (List.replicate m 0) = (List.range m).map fun i => pmP 0 y l (0, i) := by unfold palmsP; rw [zip_rep, List.map_map]; rfl
  have e1 : lcM (fun x13 => some true) (fun x13 => (pyCatS ("palm " : Str) x13).bind fun v14 => (pyCatS v14 (" 9 0 0 " : Str)).bind fun v15 => (pyCatS v15 (sgP y l 0)).bind fun v16 => (pyCatS v16 (" 1" : Str)).bind fun v17 => some v17) ((List.range m).map nmP) = some ((palmsP 0 y l (List.replicate m 0)).map palmL) := by
    rw [pe, List.map_map]
    refine lcM_ofm nmP (palmL ∘ fun i => pmP 0 y l (0, i)) (by simp; omega) fun i hi => ?_
    have hi : i < m := by simpa using hi
    have hn : (nmP i).length ≤ 8 := (nmP_ok (i := i) (by omega)).1
    have c1 : ("palm " : Str).length = 5 := by decide
    have c2 : (" 9 0 0 " : Str).length = 7 := by decide
    have c3 : (" 1" : Str).length = 2 := by decide
    rw [catS_ok (by omega), Option.bind_some, catS_ok (by rw [len_app]; omega), Option.bind_some, catS_ok (by rw [len_app, len_app]; omega), Option.bind_some, catS_ok (by rw [len_app, len_app, len_app]; omega), Option.bind_some, line_eq]
    show some _ = some (palmL (nmP i, (9, 0, 0, sgP y l 0, 1)))
    unfold palmL
    simp only [num9, num0, num1]
  refine ⟨_, e1, ("grove 1 1" : Str) :: (palmsP 0 y l (List.replicate m 0)).map palmL, (gOf 0 y l (List.replicate m 0)).own_text, ?_, ?_, S_make ok rfl⟩
  · rw [cat_ok (by rw [List.length_map, palms_len]; simp; omega)]; rfl
  · rw [join_ok rfl (fun w hw => ?_) (by rw [List.length_cons, List.length_map, palms_len]; simp; omega)]
    · show some (Txt.join "\n" _) = some (Txt.join "\n" (headL 1 1 :: ((palmsP 0 y l (List.replicate m 0)).map palmL ++ [])))
      rw [List.append_nil, head11]
    · rcases List.mem_cons.mp hw with rfl | hw
      · decide
      · obtain ⟨q, hq, rfl⟩ := List.mem_map.mp hw; exact palmL_ok (ok.pn q hq)
theorem S_right {n : Int} {x : List Int} (h : PotOk n x) (hn : n ≤ 900) : ∃ x', F__law_right x = some (true, x') ∧ PotOk (n + 20) x' := by
  obtain ⟨v1, x1, e1, a1, b1, k1⟩ := S_take (u := 4) h (by omega) (by omega)
  obtain ⟨v3, x2, e2, a3, b3, k2⟩ := S_take (u := 3) k1 (by omega) (by omega)
  obtain ⟨y, x3, e3, a2, b2, k3⟩ := S_take (u := 1 + v1) k2 (by omega) (by omega)
  generalize hl : (1 : Int) + v1 = l at e3 b2
  have l6 : l ≤ 6 := by omega
  have life : Life y l := ⟨a2, b2, by omega⟩
  obtain ⟨m, hm⟩ := Int.eq_ofNat_of_zero_le (show (0 : Int) ≤ 1 + v3 by omega)
  have m1 : 1 ≤ m := by omega
  have m5 : m ≤ 5 := by omega
  have er : pyRng (m : Nat) = some (rngI m) := rng_ok (by unfold Sm; omega) (by omega) (by omega)
  have enm : lcM (fun x5 => some true) (fun x5 => (Dm.pyStr x5).bind fun v6 => (pyCatS ("p" : Str) v6).bind fun v7 => some v7) (rngI m) = some ((List.range m).map nmP) := by
    refine lcM_ofm (fun i : Nat => (i : Int)) nmP (l := List.range m) (by simp; omega) fun i hi => ?_
    have hi : i < m := by simpa using hi
    have hnl := (rdN (n := ((i : Nat) : Int)) (by omega) (by omega)).2
    rw [str_ok (by unfold Sm; omega), Option.bind_some]
    show (pyCatS ("p" : Str) (num i)).bind _ = _
    rw [catS_ok (by have : ("p" : Str).length = 1 := by decide
                    omega)]; rfl
  have r0 : pyRepS ("0" : Str) y = some (strRep ("0" : Str) y) := by unfold pyRepS; rw [if_pos ⟨by omega, by omega, by decide⟩]
  have r1 : pyRepS ("1" : Str) (l - y) = some (strRep ("1" : Str) (l - y)) := by unfold pyRepS; rw [if_pos ⟨by omega, by omega, by decide⟩]
  have rc : pyCatS (strRep ("0" : Str) y) (strRep ("1" : Str) (l - y)) = some (sgP y l 0) := by
    rw [catS_ok, sgn life l6]
    rw [strRep_len, strRep_len, show ("0" : Str).length = 1 from by decide, show ("1" : Str).length = 1 from by decide]; omega
  obtain ⟨l18, t1, v20, v21, t2, t3, t4⟩ := S_told life l6 m1 m5
  obtain ⟨ys, x4, e4, hys, hR, k4⟩ := lcS_ex (f := fun (x25 : Str) s26 => (F__law_take s26 l).bind fun p27 => some (some p27.1, p27.2)) (fun i s => PotOk (n + 3 + i) s) (fun v => 0 ≤ v ∧ v < l) (l := (List.range m).map nmP) (s := x3) (by simp; omega) (k3.mono (by omega)) fun i x s hx hs => by
    have hi := (List.getElem?_eq_some_iff.mp hx).1
    rw [List.length_map, List.length_range] at hi
    obtain ⟨v, s', e, a, b, k⟩ := S_take (u := l) hs (by omega) (by omega)
    exact ⟨v, s', by rw [e]; rfl, ⟨a, b⟩, k.mono (by omega)⟩
  rw [List.length_map, List.length_range] at hys k4
  have plen : (srt ys).length = m := by rw [(srt_perm ys).length_eq, hys]
  have pbd : ∀ p ∈ srt ys, 0 ≤ p ∧ p < l := fun p hp => hR p ((srt_perm ys).mem_iff.mp hp)
  have plants : Plants l (srt ys) := ⟨by omega, pbd, srt_pw ys⟩
  generalize hps : srt ys = ps at plen plants pbd
  have pne : ps ≠ [] := by intro z; rw [z] at plen; simp at plen; omega
  have e32 : lcM (fun x30 => some true) (fun x30 => (pyMod (l - x30) l).bind fun v31 => some v31) ps = some (sft l ps) := lcM_map (fun p => (l - p) % l) (by omega) fun p _ => by rw [mod_ok (by omega)]; rfl
  have zs : ps.map (fun _ => (0 : Int)) = List.replicate m 0 := by rw [List.map_const', plen]
  have esh := S_shifted life l6 (ps := ps) (by omega) pne pbd
  rw [zs] at esh
  have ok := gOf_ok (t0 := 0) life l6 (ps := ps) (by omega) pne (by decide)
  have zne : List.replicate m (0 : Int) ≠ [] := by intro z; have := congrArg List.length z; simp at this; omega
  have okz := gOf_ok (t0 := 0) life l6 (ps := List.replicate m 0) (by simp; omega) zne (by decide)
  obtain ⟨x5, e5, k5⟩ := forC_ex (ρ := Bool × List Int) (body := fun (x41 : Int) s40 => (F__law_take s40 9999).bind fun p43 => (F_bearing (y, l) ps p43.1).bind fun v47 => (F_baskets (gOf 0 y l ps) p43.1).bind fun v48 => if decide (v47 ≠ v48) = true then some (.rt (false, p43.2)) else some (.nx p43.2))
    (fun i s => PotOk (n + 8 + i) s) (l := rngI 8) (k := 0) (s := x4) (k4.mono (by omega)) fun i x s hx hs => by
      have hi := (List.getElem?_eq_some_iff.mp hx).1
      rw [rngI_len] at hi
      obtain ⟨v, s', e, a, b, k⟩ := S_take (u := 9999) hs (by omega) (by omega)
      refine ⟨s', ?_, k.mono (by omega)⟩
      rw [e, Option.bind_some, S_bearing life plants ⟨a, by omega⟩, Option.bind_some, S_baskets ok ⟨a, by omega⟩, Option.bind_some, bask_eq life, if_neg (by simp)]
  rw [rngI_len] at k5
  have lb := S_least_bearing life plants
  have mb := S_most_bearing life plants
  have lk := S_least_baskets ok
  have mk := S_most_baskets ok
  rw [mn_agree life l6, mni_agree life l6] at lk
  rw [mx_agree life l6, mxi_agree life l6] at mk
  have part1 : ∃ v43, F_all_bear (gOf 0 y l ps) = some v43 ∧ ∃ d0 d1 ds, v43 = .tup (d0 :: d1 :: ds) ∧ pyEq d0 (.str ("year" : Str)) = some (decide (mxL (rowsB y l ps) = (m : Nat))) ∧ (mxL (rowsB y l ps) = (m : Nat) → ∃ y0 : Int, d1 = .int y0 ∧ (0 ≤ y0 ∧ y0 ≤ 9999) ∧ bearB y l ps y0 = (m : Nat)) := by
    obtain ⟨h1, h2⟩ := S_all_bear ok
    have hi := all_iff (ps := ps) life l6
    rw [plen] at hi
    cases hy : yearsAll (gOf 0 y l ps).own_palms with
    | nil =>
      obtain ⟨r, hr⟩ := h2 hy
      rw [hy] at hi
      have hno : ¬ mxL (rowsB y l ps) = (m : Nat) := fun z => hi.mpr z rfl
      exact ⟨_, hr, _, _, _, rfl, by rw [ny, decide_eq_false hno], fun z => absurd z hno⟩
    | cons y0 yr =>
      obtain ⟨r, hr⟩ := h1 y0 yr hy
      have hi2 := hi
      rw [hy] at hi2
      have hyes : mxL (rowsB y l ps) = (m : Nat) := hi2.mp (by simp)
      have hmem : y0 ∈ yearsAll (gOf 0 y l ps).own_palms := by rw [hy]; exact List.mem_cons_self
      have hbd := years_bd y0 hmem
      rw [years_agree life] at hmem
      have hbb := (List.mem_filter.mp hmem).2
      rw [plen] at hbb
      exact ⟨_, hr, _, _, _, rfl, by rw [yy, decide_eq_true hyes], fun z => ⟨y0, rfl, by omega, by simpa using hbb⟩⟩
  obtain ⟨v43, f1, d0, d1, dr, rfl, q1, q2⟩ := part1
  -- means
  have hrows := round life l6 ps
  rw [show ((List.range l.toNat).map fun t => bearB y l ps ((t : Nat) : Int)) = rowsB y l ps from rfl, plen] at hrows
  have hS0 : 0 ≤ (sums (gOf 0 y l ps)).sum ∧ (sums (gOf 0 y l ps)).sum ≤ 360 := by
    rw [sums_eq life]
    have lo := sum_ge (m := 0) (l := ov (bearB y l ps) 60) fun x hx => by obtain ⟨t, _, rfl⟩ := List.mem_map.mp hx; exact bearB_bd.1
    have hi : ∀ (L : List Int), (∀ x ∈ L, x ≤ 5) → L.sum ≤ 5 * (L.length : Nat) := by
      intro L
      induction L with
      | nil => intro _; simp
      | cons a L ih =>
        intro hL
        have := hL a List.mem_cons_self
        have := ih fun x hx => hL x (List.mem_cons_of_mem _ hx)
        rw [List.sum_cons, List.length_cons]; omega
    have hi := hi (ov (bearB y l ps) 60) fun x hx => by
      obtain ⟨t, _, rfl⟩ := List.mem_map.mp hx
      have := (bearB_bd (y := y) (l := l) (t := ((t : Nat) : Int)) (ps := ps)).2
      omega
    have hlen : (ov (bearB y l ps) 60).length = 60 := by simp [ov]
    rw [hlen] at lo hi
    omega
  have hmean := S_mean ok hS0.1
  have hagree := mean_agree (t0 := 0) (ps := ps) life l6
  have hg1 : (1 : Int) ≤ (Int.gcd (sums (gOf 0 y l ps)).sum 60 : Nat) := by
    have : 0 < Int.gcd (sums (gOf 0 y l ps)).sum 60 := Int.gcd_pos_iff.mpr (.inr (by decide))
    omega
  have hTop : 0 ≤ (sums (gOf 0 y l ps)).sum / ((Int.gcd (sums (gOf 0 y l ps)).sum 60 : Nat) : Int) ∧ (sums (gOf 0 y l ps)).sum / ((Int.gcd (sums (gOf 0 y l ps)).sum 60 : Nat) : Int) ≤ 360 :=
    ⟨Int.ediv_nonneg hS0.1 (by omega), Int.le_trans (Int.ediv_le_self _ hS0.1) hS0.2⟩
  have hLow : 0 ≤ (60 : Int) / ((Int.gcd (sums (gOf 0 y l ps)).sum 60 : Nat) : Int) ∧ (60 : Int) / ((Int.gcd (sums (gOf 0 y l ps)).sum 60 : Nat) : Int) ≤ 60 :=
    ⟨Int.ediv_nonneg (by decide) (by omega), Int.ediv_le_self _ (by decide)⟩
  generalize (sums (gOf 0 y l ps)).sum / ((Int.gcd (sums (gOf 0 y l ps)).sum 60 : Nat) : Int) = top at hmean hagree hTop
  generalize (60 : Int) / ((Int.gcd (sums (gOf 0 y l ps)).sum 60 : Nat) : Int) = low at hmean hagree hLow
  rw [hrows] at hagree
  have hlm : 0 ≤ low * (m : Nat) ∧ low * (m : Nat) ≤ 60 * 5 := ⟨Int.mul_nonneg hLow.1 (by omega), Int.mul_le_mul hLow.2 (by omega) (by omega) (by omega)⟩
  obtain ⟨r, hr, hr2⟩ := evenest_agree (t0 := 0) (ps := List.replicate m 0) life l6 (by simp; omega) zne (by decide)
  rw [List.length_replicate] at hr2
  have hprod : prodL (lens (gOf 0 y l (List.replicate m 0))) ≤ 1000 := by
    have hlen : (lens (gOf 0 y l (List.replicate m 0))).length = m := by rw [lens_gOf life]; simp
    have hp := prod_gOf (t0 := 0) (ps := List.replicate m 0) life m (by simp)
    rw [List.take_of_length_le (by omega)] at hp
    rw [hp]
    have gen : ∀ i : Nat, 0 ≤ l ^ i ∧ l ^ i ≤ 4 ^ i := by
      intro i
      induction i with
      | zero => simp
      | succ i ih => exact ⟨by rw [Int.pow_succ]; exact Int.mul_nonneg ih.1 (by omega), by rw [Int.pow_succ, Int.pow_succ]; exact Int.mul_le_mul ih.2 (by omega) (by omega) (by omega)⟩
    have h3 : m ≤ 3 := by omega
    have : ∀ i ≤ 3, (4 : Int) ^ i ≤ 64 := by decide
    have := (gen m).2
    have := this
    have h4 : (4 : Int) ^ m ≤ 64 := by
      have : ∀ i ≤ 3, (4 : Int) ^ i ≤ 64 := by decide
      exact this m h3
    omega
  have hge := best_ge (ps := ps) life l6
  rw [plen] at hge
  have hN : 0 ≤ (m : Int) * (l - y) ∧ (m : Int) * (l - y) ≤ 5 * 6 := ⟨Int.mul_nonneg (by omega) (by omega), Int.mul_le_mul (by omega) (by omega) (by omega) (by omega)⟩
  have hN2 : 0 ≤ (m : Int) * (l - y) / l ∧ (m : Int) * (l - y) / l ≤ 30 := ⟨Int.ediv_nonneg hN.1 (by omega), Int.le_trans (Int.ediv_le_self _ hN.1) (by omega)⟩
  have hmxs := mx_agree (t0 := 0) (ps := ps) life l6
  have hmns := mn_agree (t0 := 0) (ps := ps) life l6
  have hle_m : ∀ x ∈ sums (gOf 0 y l ps), x ≤ (m : Nat) := fun x hx => by
    rw [sums_eq life] at hx
    obtain ⟨t, _, rfl⟩ := List.mem_map.mp hx
    have := (bearB_bd (y := y) (l := l) (t := ((t : Nat) : Int)) (ps := ps)).2
    omega
  have hmn0 : 0 ≤ mnL (rowsB y l ps) ∧ mnL (rowsB y l ps) ≤ 5 := by
    obtain ⟨t, _, e⟩ := List.mem_map.mp (mnL_mem (rowsB_ne (ps := ps) life))
    have e : bearB y l ps ((t : Nat) : Int) = mnL (rowsB y l ps) := e
    rw [← e]
    have := bearB_bd (y := y) (l := l) (t := ((t : Nat) : Int)) (ps := ps)
    omega
  have c1 : decide ((0 : Int) < ((((sums (gOf 0 y l ps)).filter fun x => decide (((m : Nat) : Int) ≤ x)).length : Nat) : Int)) = decide (mxL (rowsB y l ps) = (m : Nat)) := by
    rw [decide_eq_decide]
    constructor
    · intro hc
      have hne : ((sums (gOf 0 y l ps)).filter fun x => decide (((m : Nat) : Int) ≤ x)) ≠ [] := by intro z; rw [z] at hc; simp at hc
      obtain ⟨x, hx⟩ := List.exists_mem_of_ne_nil _ hne
      obtain ⟨hx1, hx2⟩ := List.mem_filter.mp hx
      have hx2 := of_decide_eq_true hx2
      have h1 := mxL_ge hx1
      have h2 := hle_m _ (mxL_mem (sums_ne (gOf 0 y l ps)))
      rw [hmxs] at h1 h2
      omega
    · intro hm2
      have hmem := mxL_mem (sums_ne (gOf 0 y l ps))
      rw [hmxs, hm2] at hmem
      have : ((m : Nat) : Int) ∈ (sums (gOf 0 y l ps)).filter fun x => decide (((m : Nat) : Int) ≤ x) := List.mem_filter.mpr ⟨hmem, by simp⟩
      have := List.length_pos_of_mem this
      omega
  have c2 : ((((sums (gOf 0 y l ps)).filter fun x => decide (mnL (rowsB y l ps) ≤ x)).length : Nat) : Int) = 60 := by
    rw [count_all fun x hx => decide_eq_true (by rw [← hmns]; exact mnL_le hx), sums, List.length_map, rngI_len]; rfl
  have e6 : (if decide (mxL (rowsB y l ps) = (m : Nat)) = true then (pyIxD (D.tup (d0 :: d1 :: dr)) 1).bind fun v95 => (pyAsI v95).bind fun v96 => (F_baskets (gOf 0 y l ps) v96).bind fun v97 => some (decide (v97 ≠ ((m : Nat) : Int))) else some false) = some false := by
    by_cases hx : mxL (rowsB y l ps) = (m : Nat)
    · obtain ⟨y0, hd, hy0, hb0⟩ := q2 hx
      rw [if_pos (by simpa using hx), ixD1, Option.bind_some, hd, show pyAsI (D.int y0) = some y0 from rfl, Option.bind_some, S_baskets ok hy0, Option.bind_some, bask_eq life, hb0]; simp
    · rw [if_neg (by simpa using hx)]
  have e7 : (if decide ((0 : Int) < (m : Int) * (l - y) / l) = true then (F_enough_plants (y, l) ((m : Int) * (l - y) / l)).bind fun v81 => some (decide (((m : Nat) : Int) < v81.1)) else some false) = some false := by
    by_cases hx : (0 : Int) < (m : Int) * (l - y) / l
    · obtain ⟨v, p, he, hv⟩ := S_enough (m := (m : Nat)) life ⟨hx, by omega⟩ (by omega) (Int.ediv_mul_le _ (by omega))
      rw [if_pos (by simpa using hx), he, Option.bind_some]
      show some (decide (((m : Nat) : Int) < v)) = _
      rw [decide_eq_false (by omega)]
    · rw [if_neg (by simpa using hx)]
  refine ⟨x5, ?_, k5.mono (by omega)⟩
  rw [F__law_right, e1, Option.bind_some, e2, Option.bind_some]
  dsimp only
  rw [hl, hm, e3, Option.bind_some]
  dsimp only
  rw [er, Option.bind_some, enm, Option.bind_some, r0, Option.bind_some, r1, Option.bind_some, rc, Option.bind_some, t1, Option.bind_some, t2, Option.bind_some, t3, Option.bind_some, t4, Option.bind_some]
  dsimp only
  rw [e4, Option.bind_some]
  dsimp only
  rw [hps, e32, Option.bind_some, esh, Option.bind_some, show pyRng 8 = some (rngI 8) from rng_ok (by unfold Sm; omega) (by omega) (by omega), Option.bind_some, e5, Option.bind_some]
  dsimp only
  rw [lk, Option.bind_some, mk, Option.bind_some, lb, Option.bind_some]
  dsimp only
  rw [eq_t2, Option.bind_some, if_neg (by simp), mb, Option.bind_some]
  dsimp only
  rw [eq_t2, Option.bind_some, Option.bind_some, if_neg (by simp), hmean, Option.bind_some]
  dsimp only
  rw [mul_ok (by unfold Sm; omega) (by unfold Sm; omega), Option.bind_some, mul_ok (by unfold Sm; omega) (by unfold Sm; omega), Option.bind_some, mul_ok (by unfold Sm; omega) (by unfold Sm; omega), Option.bind_some,
    if_neg (by rw [hagree, Int.mul_assoc]; simp), S_best_plants life ⟨by omega, by omega⟩, Option.bind_some]
  dsimp only
  rw [mul_ok (by unfold Sm; omega) (by unfold Sm; omega), Option.bind_some, div_ok (by omega) (by unfold Sm; omega), Option.bind_some, if_neg (by simp; omega), S_evenest okz hprod hr, Option.bind_some]
  rw [hr2, if_neg (by simp), e7, Option.bind_some, if_neg (by simp), f1, Option.bind_some, ixD0, Option.bind_some, q1, Option.bind_some]
  rw [if_neg (by simp), Option.bind_some, q1, Option.bind_some, e6, Option.bind_some, if_neg (by simp), S_how_many ok ⟨by omega, by omega⟩, Option.bind_some, Option.bind_some, q1, Option.bind_some, c1, if_pos (by simp), S_how_many ok ⟨hmn0.1, by omega⟩, Option.bind_some, c2]
  simp
theorem S_law (ns : List Int) : F_law ns = some true := by
  rw [F_law, S_cells, Option.bind_some]
  obtain ⟨u, e, _⟩ := forC_ex (ρ := Bool) (body := fun (x7 : Int) (s6 : Unit) => (F__law_pot ns x7).bind fun v9 => (pyRng 3).bind fun l13 => (lcS (σ := List Int) (fun (x16 : Int) s17 => (F__law_right s17).bind fun p18 => some (some p18.1, (p18.2))) l13 (v9)).bind fun p19 => if (!(p19.1.all id)) = true then some (.rt false) else some (.nx (())))
    (fun _ _ => True) (l := rngI (max 1 (min 2 (ns.length : Int)))) (k := 0) (s := ()) trivial fun i x s hx _ => by
      have hi := (List.getElem?_eq_some_iff.mp hx).1
      rw [rngI_len] at hi
      have := rng_at hx
      subst this
      obtain ⟨p, hp, k⟩ := S_pot (ns := ns) (i := i) (by omega)
      obtain ⟨ys, x', e, _, hR, _⟩ := lcS_ex (f := fun (x16 : Int) s17 => (F__law_right s17).bind fun p18 => some (some p18.1, (p18.2))) (fun i s => PotOk (20 * i) s) (fun v => v = true) (l := rngI 3) (s := p) (by rw [rngI_len]; omega) (k.mono (by omega)) fun i x s hx hs => by
        have hi := (List.getElem?_eq_some_iff.mp hx).1
        rw [rngI_len] at hi
        obtain ⟨x', e, k⟩ := S_right hs (by omega)
        exact ⟨true, x', by rw [e]; rfl, rfl, k.mono (by omega)⟩
      refine ⟨(), ?_, trivial⟩
      rw [hp, Option.bind_some, show pyRng 3 = some (rngI 3) from rng_ok (by unfold Sm; omega) (by omega) (by omega), Option.bind_some, e, Option.bind_some, if_neg]
      rw [show ys.all id = true from List.all_eq_true.mpr fun y hy => hR y hy]
      simp
  rw [e, Option.bind_some]

end K92

set_option Elab.async false
set_option linter.all false
set_option maxRecDepth 100000
set_option maxHeartbeats 4000000
set_option autoImplicit false
namespace K92
open PySem L2 Dm StX PyProof.Rows
theorem mkCK_GroveReader {K : PySem.W.Frag} {C : Addr} (pg : PySem.W.plainGet K C Str.empty = true) (hd : PySem.W.hasDictIn K C = true) (po : PySem.W.plainOver K C = true) (sa : PySem.W.findIn K (.ref C) "__setattr__" = some (some (.builtin "object.__setattr__"))) (ha : PySem.W.findIn K (.ref C) "__class__" = some (some (.builtin "object.__class__"))) (hn : PySem.W.specialIn K (.builtin "object.__class__") "__get__" = some (some (.builtin "getset_descriptor.__get__"))) (htk : PySem.W.takesIn K (.builtin "object.__class__") = some true) (hm : PySem.W.mroIn K C (.type "object") = some true) (n_own_head : PySem.W.findIn K (.ref C) ("own_head" : Str) = some none) (n_own_palms : PySem.W.findIn K (.ref C) ("own_palms" : Str) = some none) (n_own_males : PySem.W.findIn K (.ref C) ("own_males" : Str) = some none) : CK_GroveReader K C :=
  ⟨⟨pg, hd, po, sa⟩, ⟨⟨pg, hd, po, sa⟩, ha, hn, htk, hm, if_pos (beq_self_eq_true _)⟩, n_own_head, n_own_palms, n_own_males⟩
theorem mkCK_Grove {K : PySem.W.Frag} {C : Addr} (pg : PySem.W.plainGet K C Str.empty = true) (hd : PySem.W.hasDictIn K C = true) (po : PySem.W.plainOver K C = true) (sa : PySem.W.findIn K (.ref C) "__setattr__" = some (some (.builtin "object.__setattr__"))) (ha : PySem.W.findIn K (.ref C) "__class__" = some (some (.builtin "object.__class__"))) (hn : PySem.W.specialIn K (.builtin "object.__class__") "__get__" = some (some (.builtin "getset_descriptor.__get__"))) (htk : PySem.W.takesIn K (.builtin "object.__class__") = some true) (hm : PySem.W.mroIn K C (.type "object") = some true) (n_own_text : PySem.W.findIn K (.ref C) ("own_text" : Str) = some none) (n_own_head : PySem.W.findIn K (.ref C) ("own_head" : Str) = some none) (n_own_palms : PySem.W.findIn K (.ref C) ("own_palms" : Str) = some none) (n_own_males : PySem.W.findIn K (.ref C) ("own_males" : Str) = some none) : CK_Grove K C :=
  ⟨⟨pg, hd, po, sa⟩, ⟨⟨pg, hd, po, sa⟩, ha, hn, htk, hm, if_pos (beq_self_eq_true _)⟩, n_own_text, n_own_head, n_own_palms, n_own_males⟩
theorem all_mk {l : PySem.W.OpenLaw} {w : World} {K : PySem.W.Frag} {mg : Str → Option Value} {fa : Addr} {C_GroveReader : Addr} {C_Grove : Addr} (hfa : mg ("law" : Str) = some (.ref fa)) (T : Tx K mg)
    (cl_GroveReader : ClsAt K mg ("GroveReader" : Str) C_GroveReader)
    (k_GroveReader : CK_GroveReader K C_GroveReader)
    (cl_Grove : ClsAt K mg ("Grove" : Str) C_Grove)
    (k_Grove : CK_Grove K C_Grove)
    (d_is_integer : DefAt K mg ("is_integer" : Str) s_is_integer)
    (d_is_name : DefAt K mg ("is_name" : Str) s_is_name)
    (d_read_integer : DefAt K mg ("read_integer" : Str) s_read_integer)
    (d_common : DefAt K mg ("common" : Str) s_common)
    (d_is_pattern : DefAt K mg ("is_pattern" : Str) s_is_pattern)
    (d_GroveReader___init__ : MethAt K C_GroveReader ("__init__" : Str) ("GroveReader.__init__" : Str) s_GroveReader___init__)
    (d_Grove_turns : PropAt K C_Grove ("turns" : Str) ("Grove.turns" : Str) s_Grove_turns)
    (d_Grove_hands : PropAt K C_Grove ("hands" : Str) ("Grove.hands" : Str) s_Grove_hands)
    (d_Grove_palms : PropAt K C_Grove ("palms" : Str) ("Grove.palms" : Str) s_Grove_palms)
    (d_Grove_males : PropAt K C_Grove ("males" : Str) ("Grove.males" : Str) s_Grove_males)
    (d_Grove_palm_names : MethAt K C_Grove ("palm_names" : Str) ("Grove.palm_names" : Str) s_Grove_palm_names)
    (d_Grove_years_of : MethAt K C_Grove ("years_of" : Str) ("Grove.years_of" : Str) s_Grove_years_of)
    (d_Grove_dates_of : MethAt K C_Grove ("dates_of" : Str) ("Grove.dates_of" : Str) s_Grove_dates_of)
    (d_check_grove : DefAt K mg ("check_grove" : Str) s_check_grove)
    (d_bearing_by : DefAt K mg ("bearing_by" : Str) s_bearing_by)
    (d_even_plants : DefAt K mg ("even_plants" : Str) s_even_plants)
    (d_most_always : DefAt K mg ("most_always" : Str) s_most_always)
    (d_lap_of : DefAt K mg ("lap_of" : Str) s_lap_of)
    (d_lots_by_size : DefAt K mg ("lots_by_size" : Str) s_lots_by_size)
    (d_sums_by : DefAt K mg ("sums_by" : Str) s_sums_by)
    (d__law_pot : DefAt K mg ("_law_pot" : Str) s__law_pot)
    (d__law_take : DefAt K mg ("_law_take" : Str) s__law_take)
    (d__law_cells : DefAt K mg ("_law_cells" : Str) s__law_cells)
    (d_is_between : DefAt K mg ("is_between" : Str) s_is_between)
    (d_reduced : DefAt K mg ("reduced" : Str) s_reduced)
    (d_GroveReader_is_new : MethAt K C_GroveReader ("is_new" : Str) ("GroveReader.is_new" : Str) s_GroveReader_is_new)
    (d_bears_in : DefAt K mg ("bears_in" : Str) s_bears_in)
    (d_bearings_of : DefAt K mg ("bearings_of" : Str) s_bearings_of)
    (d_lengths_of : DefAt K mg ("lengths_of" : Str) s_lengths_of)
    (d_GroveReader_takes_head : MethAt K C_GroveReader ("takes_head" : Str) ("GroveReader.takes_head" : Str) s_GroveReader_takes_head)
    (d_is_day : DefAt K mg ("is_day" : Str) s_is_day)
    (d_check_year : DefAt K mg ("check_year" : Str) s_check_year)
    (d_baskets_in : DefAt K mg ("baskets_in" : Str) s_baskets_in)
    (d_check_life : DefAt K mg ("check_life" : Str) s_check_life)
    (d_are_plants_of : DefAt K mg ("are_plants_of" : Str) s_are_plants_of)
    (d_check_number : DefAt K mg ("check_number" : Str) s_check_number)
    (d_bits_of : DefAt K mg ("bits_of" : Str) s_bits_of)
    (d_check_baskets : DefAt K mg ("check_baskets" : Str) s_check_baskets)
    (d_are_shifts : DefAt K mg ("are_shifts" : Str) s_are_shifts)
    (d_shift_count : DefAt K mg ("shift_count" : Str) s_shift_count)
    (d_all_shifts : DefAt K mg ("all_shifts" : Str) s_all_shifts)
    (d_rows_shifted : DefAt K mg ("rows_shifted" : Str) s_rows_shifted)
    (d_palm_in : DefAt K mg ("palm_in" : Str) s_palm_in)
    (d_male_in : DefAt K mg ("male_in" : Str) s_male_in)
    (d_baskets : DefAt K mg ("baskets" : Str) s_baskets)
    (d_check_plants : DefAt K mg ("check_plants" : Str) s_check_plants)
    (d_best_plants : DefAt K mg ("best_plants" : Str) s_best_plants)
    (d_check_enough : DefAt K mg ("check_enough" : Str) s_check_enough)
    (d_years_of_lot : DefAt K mg ("years_of_lot" : Str) s_years_of_lot)
    (d_sums_of : DefAt K mg ("sums_of" : Str) s_sums_of)
    (d_check_shifts_few : DefAt K mg ("check_shifts_few" : Str) s_check_shifts_few)
    (d_told_evenest : DefAt K mg ("told_evenest" : Str) s_told_evenest)
    (d_GroveReader_takes : MethAt K C_GroveReader ("takes" : Str) ("GroveReader.takes" : Str) s_GroveReader_takes)
    (d_bearing : DefAt K mg ("bearing" : Str) s_bearing)
    (d_least_bearing : DefAt K mg ("least_bearing" : Str) s_least_bearing)
    (d_most_bearing : DefAt K mg ("most_bearing" : Str) s_most_bearing)
    (d_enough_plants : DefAt K mg ("enough_plants" : Str) s_enough_plants)
    (d_told_years : DefAt K mg ("told_years" : Str) s_told_years)
    (d_most_baskets : DefAt K mg ("most_baskets" : Str) s_most_baskets)
    (d_least_baskets : DefAt K mg ("least_baskets" : Str) s_least_baskets)
    (d_mean_baskets : DefAt K mg ("mean_baskets" : Str) s_mean_baskets)
    (d_how_many_with : DefAt K mg ("how_many_with" : Str) s_how_many_with)
    (d_evenest : DefAt K mg ("evenest" : Str) s_evenest)
    (d_Grove___init__ : MethAt K C_Grove ("__init__" : Str) ("Grove.__init__" : Str) s_Grove___init__)
    (d_all_bear : DefAt K mg ("all_bear" : Str) s_all_bear)
    (d_grove_of : DefAt K mg ("grove_of" : Str) s_grove_of)
    (d_shifted_by : DefAt K mg ("shifted_by" : Str) s_shifted_by)
    (d_shifted : DefAt K mg ("shifted" : Str) s_shifted)
    (d__law_right : DefAt K mg ("_law_right" : Str) s__law_right)
    (d_law : DefAt K mg ("law" : Str) s_law)
    : ∃ fd : FuncData, (∀ (s : Shared) (v : Value), BindsTo s fd ⟨[v], []⟩ [("script", v)]) ∧ ∀ base : Heap, K.In base → base.Ns mainGlobals mg → FnOk l.prog w K mg base CX0 12 fa fd ["script"] (spF K R_law) := by
  obtain ⟨f0, fd0, F0, hm0, hk0⟩ := d_law
  rw [hfa] at hm0
  cases hm0
  have FF := F0
  obtain ⟨oc, od, kV, doc, pm, an, cdv, ct, osl, rfl, lk, hcd⟩ := F0.ex
  refine ⟨PySem.W.fnOf "law" "law" (defArgs s_law) (defBody s_law) (defScope s_law) .none kV doc pm an cdv ct, fun s v => .of_eq rfl, fun base _ _ => ?_⟩
  obtain ⟨f_years_of_lot, fd_years_of_lot, F_years_of_lot_, hm_years_of_lot, hk_years_of_lot⟩ := id d_years_of_lot
  obtain ⟨S_years_in, hS_years_in_years_of_lot, hA_years_in⟩ : ∃ S : Addr → Option Sp, S f_years_of_lot = some (spF K (R_years_of_lot C_Grove)) ∧ (∀ f sp, S f = some sp → (f = f_years_of_lot ∧ sp = (spF K (R_years_of_lot C_Grove)))) := by
    refine ⟨fun f => if f = f_years_of_lot then some (spF K (R_years_of_lot C_Grove)) else none, ?_, ?_⟩
    · show (if f_years_of_lot = f_years_of_lot then some (spF K (R_years_of_lot C_Grove)) else none) = _; rw [if_pos rfl]
    · intro f sp e
      have e : (if f = f_years_of_lot then some (spF K (R_years_of_lot C_Grove)) else none) = some sp := e
      by_cases h0 : f = f_years_of_lot
      · rw [if_pos h0] at e; exact ⟨h0, (Option.some.inj e).symm⟩
      rw [if_neg h0] at e; cases e
  have E_is_integer : Df l.prog w K mg base ("is_integer" : Str) 1 [("value" : Str)] (spF K R_is_integer) := d_is_integer.df (fun {f fd} F => ok_is_integer T  len_is_integer (body_F (p_is_integer  )) F) (fun _ _ _ _ _ _ us hl => match us, hl with | [_], _ => rfl)
  have E_is_name : Df l.prog w K mg base ("is_name" : Str) 1 [("value" : Str)] (spF K R_is_name) := d_is_name.df (fun {f fd} F => ok_is_name T  len_is_name (body_F (p_is_name  )) F) (fun _ _ _ _ _ _ us hl => match us, hl with | [_], _ => rfl)
  have E_read_integer : Df l.prog w K mg base ("read_integer" : Str) 1 [("word" : Str)] (spF K R_read_integer) := d_read_integer.df (fun {f fd} F => ok_read_integer T  len_read_integer (body_F (p_read_integer  )) F) (fun _ _ _ _ _ _ us hl => match us, hl with | [_], _ => rfl)
  have E_common : Df l.prog w K mg base ("common" : Str) 1 [("one" : Str), ("other" : Str)] (spF K R_common) := d_common.df (fun {f fd} F => ok_common T  len_common (body_F (p_common  )) F) (fun _ _ _ _ _ _ us hl => match us, hl with | [_, _], _ => rfl)
  have E_is_pattern : Df l.prog w K mg base ("is_pattern" : Str) 1 [("word" : Str)] (spF K R_is_pattern) := d_is_pattern.df (fun {f fd} F => ok_is_pattern T  len_is_pattern (body_F (p_is_pattern  )) F) (fun _ _ _ _ _ _ us hl => match us, hl with | [_], _ => rfl)
  have E_GroveReader___init__ : Di l.prog w K mg base ("GroveReader" : Str) C_GroveReader 1 [("self" : Str)] (spO K (R_GroveReader___init__ C_GroveReader)) := d_GroveReader___init__.di cl_GroveReader (fun {f fd} F => ok_GroveReader___init__ T  len_GroveReader___init__ (body_O (p_GroveReader___init__ k_GroveReader )) F) (fun _ _ _ _ _ _ us hl => match us, hl with | [_], _ => rfl)
  have E_Grove_turns : Dpr l.prog w K mg base C_Grove ("turns" : Str) 1 [("self" : Str)] (spF K (R_Grove_turns C_Grove)) := d_Grove_turns.dpr cl_Grove.c (fun {f fd} F => ok_Grove_turns T  len_Grove_turns (body_F (p_Grove_turns k_Grove )) F) (fun _ _ _ _ _ _ us hl => match us, hl with | [_], _ => rfl)
  have E_Grove_hands : Dpr l.prog w K mg base C_Grove ("hands" : Str) 1 [("self" : Str)] (spF K (R_Grove_hands C_Grove)) := d_Grove_hands.dpr cl_Grove.c (fun {f fd} F => ok_Grove_hands T  len_Grove_hands (body_F (p_Grove_hands k_Grove )) F) (fun _ _ _ _ _ _ us hl => match us, hl with | [_], _ => rfl)
  have E_Grove_palms : Dpr l.prog w K mg base C_Grove ("palms" : Str) 1 [("self" : Str)] (spF K (R_Grove_palms C_Grove)) := d_Grove_palms.dpr cl_Grove.c (fun {f fd} F => ok_Grove_palms T  len_Grove_palms (body_F (p_Grove_palms k_Grove )) F) (fun _ _ _ _ _ _ us hl => match us, hl with | [_], _ => rfl)
  have E_Grove_males : Dpr l.prog w K mg base C_Grove ("males" : Str) 1 [("self" : Str)] (spF K (R_Grove_males C_Grove)) := d_Grove_males.dpr cl_Grove.c (fun {f fd} F => ok_Grove_males T  len_Grove_males (body_F (p_Grove_males k_Grove )) F) (fun _ _ _ _ _ _ us hl => match us, hl with | [_], _ => rfl)
  have E_Grove_palm_names : Dmt l.prog w K mg base C_Grove ("palm_names" : Str) 1 [("self" : Str)] (spF K (R_Grove_palm_names C_Grove)) := d_Grove_palm_names.dm cl_Grove.c (fun {f fd} F => ok_Grove_palm_names T  len_Grove_palm_names (body_F (p_Grove_palm_names k_Grove )) F) (fun _ _ _ _ _ _ us hl => match us, hl with | [_], _ => rfl)
  have E_Grove_years_of : Dmt l.prog w K mg base C_Grove ("years_of" : Str) 1 [("self" : Str), ("name" : Str)] (spF K (R_Grove_years_of C_Grove)) := d_Grove_years_of.dm cl_Grove.c (fun {f fd} F => ok_Grove_years_of T  len_Grove_years_of (body_F (p_Grove_years_of k_Grove )) F) (fun _ _ _ _ _ _ us hl => match us, hl with | [_, _], _ => rfl)
  have E_Grove_dates_of : Dmt l.prog w K mg base C_Grove ("dates_of" : Str) 1 [("self" : Str), ("name" : Str)] (spF K (R_Grove_dates_of C_Grove)) := d_Grove_dates_of.dm cl_Grove.c (fun {f fd} F => ok_Grove_dates_of T  len_Grove_dates_of (body_F (p_Grove_dates_of k_Grove )) F) (fun _ _ _ _ _ _ us hl => match us, hl with | [_, _], _ => rfl)
  have E_check_grove : Df l.prog w K mg base ("check_grove" : Str) 1 [("grove" : Str)] (spF K (R_check_grove C_Grove)) := d_check_grove.df (fun {f fd} F => ok_check_grove T cl_Grove.cst len_check_grove (body_F (p_check_grove k_Grove )) F) (fun _ _ _ _ _ _ us hl => match us, hl with | [_], _ => rfl)
  have E_bearing_by : Df l.prog w K mg base ("bearing_by" : Str) 1 [("life" : Str), ("plants" : Str), ("year" : Str)] (spF K R_bearing_by) := d_bearing_by.df (fun {f fd} F => ok_bearing_by T  len_bearing_by (body_F (p_bearing_by  )) F) (fun _ _ _ _ _ _ us hl => match us, hl with | [_, _, _], _ => rfl)
  have E_even_plants : Df l.prog w K mg base ("even_plants" : Str) 1 [("life" : Str), ("many" : Str)] (spF K R_even_plants) := d_even_plants.df (fun {f fd} F => ok_even_plants T  len_even_plants (body_F (p_even_plants  )) F) (fun _ _ _ _ _ _ us hl => match us, hl with | [_, _], _ => rfl)
  have E_most_always : Df l.prog w K mg base ("most_always" : Str) 1 [("life" : Str), ("many" : Str)] (spF K R_most_always) := d_most_always.df (fun {f fd} F => ok_most_always T  len_most_always (body_F (p_most_always  )) F) (fun _ _ _ _ _ _ us hl => match us, hl with | [_, _], _ => rfl)
  have E_lap_of : Df l.prog w K mg base ("lap_of" : Str) 1 [("years" : Str)] (spF K R_lap_of) := d_lap_of.df (fun {f fd} F => ok_lap_of T  len_lap_of (body_F (p_lap_of  )) F) (fun _ _ _ _ _ _ us hl => match us, hl with | [_], _ => rfl)
  have E_lots_by_size : Df l.prog w K mg base ("lots_by_size" : Str) 1 [("names" : Str)] (spF K R_lots_by_size) := d_lots_by_size.df (fun {f fd} F => ok_lots_by_size T  len_lots_by_size (body_F (p_lots_by_size  )) F) (fun _ _ _ _ _ _ us hl => match us, hl with | [_], _ => rfl)
  have E_sums_by : Df l.prog w K mg base ("sums_by" : Str) 1 [("rows" : Str), ("shifts" : Str)] (spF K R_sums_by) := d_sums_by.df (fun {f fd} F => ok_sums_by T  len_sums_by (body_F (p_sums_by  )) F) (fun _ _ _ _ _ _ us hl => match us, hl with | [_, _], _ => rfl)
  have E__law_pot : Df l.prog w K mg base ("_law_pot" : Str) 1 [("script" : Str), ("place" : Str)] (spF K R__law_pot) := d__law_pot.df (fun {f fd} F => ok__law_pot T  len__law_pot (body_F (p__law_pot  )) F) (fun _ _ _ _ _ _ us hl => match us, hl with | [_, _], _ => rfl)
  have E__law_take : Df l.prog w K mg base ("_law_take" : Str) 1 [("pot" : Str), ("upto" : Str)] (spO K R__law_take) := d__law_take.df (fun {f fd} F => ok__law_take T  len__law_take (body_O (p__law_take  )) F) (fun _ _ _ _ _ _ us hl => match us, hl with | [_, _], _ => rfl)
  have E__law_cells : Df l.prog w K mg base ("_law_cells" : Str) 1 [("script" : Str), ("limit" : Str)] (spF K R__law_cells) := d__law_cells.df (fun {f fd} F => ok__law_cells T  len__law_cells (body_F (p__law_cells  )) F) (fun _ _ _ _ _ _ us hl => match us, hl with | [_, _], _ => rfl)
  have E_is_between : Df l.prog w K mg base ("is_between" : Str) 2 [("value" : Str), ("least" : Str), ("most" : Str)] (spF K R_is_between) := d_is_between.df (fun {f fd} F => ok_is_between T E_is_integer len_is_between (body_F (p_is_between  )) F) (fun _ _ _ _ _ _ us hl => match us, hl with | [_, _, _], _ => rfl)
  have E_reduced : Df l.prog w K mg base ("reduced" : Str) 2 [("top" : Str), ("low" : Str)] (spF K R_reduced) := d_reduced.df (fun {f fd} F => ok_reduced T E_common len_reduced (body_F (p_reduced  )) F) (fun _ _ _ _ _ _ us hl => match us, hl with | [_, _], _ => rfl)
  have E_GroveReader_is_new : Dmt l.prog w K mg base C_GroveReader ("is_new" : Str) 2 [("self" : Str), ("name" : Str)] (spO K (R_GroveReader_is_new C_GroveReader)) := d_GroveReader_is_new.dm cl_GroveReader.c (fun {f fd} F => ok_GroveReader_is_new T E_is_name len_GroveReader_is_new (body_O (p_GroveReader_is_new k_GroveReader )) F) (fun _ _ _ _ _ _ us hl => match us, hl with | [_, _], _ => rfl)
  have E_bears_in : Df l.prog w K mg base ("bears_in" : Str) 2 [("grove" : Str), ("palm" : Str), ("year" : Str)] (spF K (R_bears_in C_Grove)) := d_bears_in.df (fun {f fd} F => ok_bears_in T E_Grove_years_of len_bears_in (body_F (p_bears_in k_Grove )) F) (fun _ _ _ _ _ _ us hl => match us, hl with | [_, _, _], _ => rfl)
  have E_bearings_of : Df l.prog w K mg base ("bearings_of" : Str) 2 [("life" : Str), ("plants" : Str)] (spF K R_bearings_of) := d_bearings_of.df (fun {f fd} F => ok_bearings_of T E_bearing_by len_bearings_of (body_F (p_bearings_of  )) F) (fun _ _ _ _ _ _ us hl => match us, hl with | [_, _], _ => rfl)
  have E_lengths_of : Df l.prog w K mg base ("lengths_of" : Str) 2 [("grove" : Str)] (spF K (R_lengths_of C_Grove)) := d_lengths_of.df (fun {f fd} F => ok_lengths_of T E_Grove_palm_names E_Grove_years_of len_lengths_of (body_F (p_lengths_of k_Grove )) F) (fun _ _ _ _ _ _ us hl => match us, hl with | [_], _ => rfl)
  have E_GroveReader_takes_head : Dmt l.prog w K mg base C_GroveReader ("takes_head" : Str) 3 [("self" : Str), ("numbers" : Str)] (spO K (R_GroveReader_takes_head C_GroveReader)) := d_GroveReader_takes_head.dm cl_GroveReader.c (fun {f fd} F => ok_GroveReader_takes_head T E_is_between len_GroveReader_takes_head (body_O (p_GroveReader_takes_head k_GroveReader )) F) (fun _ _ _ _ _ _ us hl => match us, hl with | [_, _], _ => rfl)
  have E_is_day : Df l.prog w K mg base ("is_day" : Str) 3 [("value" : Str)] (spF K R_is_day) := d_is_day.df (fun {f fd} F => ok_is_day T E_is_between len_is_day (body_F (p_is_day  )) F) (fun _ _ _ _ _ _ us hl => match us, hl with | [_], _ => rfl)
  have E_check_year : Df l.prog w K mg base ("check_year" : Str) 3 [("year" : Str)] (spF K R_check_year) := d_check_year.df (fun {f fd} F => ok_check_year T E_is_between len_check_year (body_F (p_check_year  )) F) (fun _ _ _ _ _ _ us hl => match us, hl with | [_], _ => rfl)
  have E_baskets_in : Df l.prog w K mg base ("baskets_in" : Str) 3 [("grove" : Str), ("year" : Str)] (spF K (R_baskets_in C_Grove)) := d_baskets_in.df (fun {f fd} F => ok_baskets_in T E_Grove_palm_names E_bears_in E_Grove_dates_of len_baskets_in (body_F (p_baskets_in k_Grove )) F) (fun _ _ _ _ _ _ us hl => match us, hl with | [_, _], _ => rfl)
  have E_check_life : Df l.prog w K mg base ("check_life" : Str) 3 [("life" : Str)] (spF K R_check_life) := d_check_life.df (fun {f fd} F => ok_check_life T E_is_between len_check_life (body_F (p_check_life  )) F) (fun _ _ _ _ _ _ us hl => match us, hl with | [_], _ => rfl)
  have E_are_plants_of : Df l.prog w K mg base ("are_plants_of" : Str) 3 [("life" : Str), ("value" : Str)] (spF K R_are_plants_of) := d_are_plants_of.df (fun {f fd} F => ok_are_plants_of T E_is_between len_are_plants_of (body_F (p_are_plants_of  )) F) (fun _ _ _ _ _ _ us hl => match us, hl with | [_, _], _ => rfl)
  have E_check_number : Df l.prog w K mg base ("check_number" : Str) 3 [("number" : Str)] (spF K R_check_number) := d_check_number.df (fun {f fd} F => ok_check_number T E_is_between len_check_number (body_F (p_check_number  )) F) (fun _ _ _ _ _ _ us hl => match us, hl with | [_], _ => rfl)
  have E_bits_of : Df l.prog w K mg base ("bits_of" : Str) 3 [("grove" : Str), ("palm" : Str)] (spF K (R_bits_of C_Grove)) := d_bits_of.df (fun {f fd} F => ok_bits_of T E_bears_in len_bits_of (body_F (p_bits_of  )) F) (fun _ _ _ _ _ _ us hl => match us, hl with | [_, _], _ => rfl)
  have E_check_baskets : Df l.prog w K mg base ("check_baskets" : Str) 3 [("grove" : Str), ("number" : Str)] (spF K (R_check_baskets C_Grove)) := d_check_baskets.df (fun {f fd} F => ok_check_baskets T E_check_grove E_is_between len_check_baskets (body_F (p_check_baskets  )) F) (fun _ _ _ _ _ _ us hl => match us, hl with | [_, _], _ => rfl)
  have E_are_shifts : Df l.prog w K mg base ("are_shifts" : Str) 3 [("grove" : Str), ("value" : Str)] (spF K (R_are_shifts C_Grove)) := d_are_shifts.df (fun {f fd} F => ok_are_shifts T E_Grove_palms E_lengths_of E_is_between len_are_shifts (body_F (p_are_shifts k_Grove )) F) (fun _ _ _ _ _ _ us hl => match us, hl with | [_, _], _ => rfl)
  have E_shift_count : Df l.prog w K mg base ("shift_count" : Str) 3 [("grove" : Str)] (spF K (R_shift_count C_Grove)) := d_shift_count.df (fun {f fd} F => ok_shift_count T E_lengths_of len_shift_count (body_F (p_shift_count  )) F) (fun _ _ _ _ _ _ us hl => match us, hl with | [_], _ => rfl)
  have E_all_shifts : Df l.prog w K mg base ("all_shifts" : Str) 3 [("grove" : Str)] (spF K (R_all_shifts C_Grove)) := d_all_shifts.df (fun {f fd} F => ok_all_shifts T E_lengths_of len_all_shifts (body_F (p_all_shifts  )) F) (fun _ _ _ _ _ _ us hl => match us, hl with | [_], _ => rfl)
  have E_rows_shifted : Df l.prog w K mg base ("rows_shifted" : Str) 3 [("grove" : Str)] (spF K (R_rows_shifted C_Grove)) := d_rows_shifted.df (fun {f fd} F => ok_rows_shifted T E_lengths_of E_Grove_palm_names E_Grove_dates_of E_Grove_years_of len_rows_shifted (body_F (p_rows_shifted k_Grove )) F) (fun _ _ _ _ _ _ us hl => match us, hl with | [_], _ => rfl)
  have E_palm_in : Df l.prog w K mg base ("palm_in" : Str) 4 [("words" : Str)] (spF K R_palm_in) := d_palm_in.df (fun {f fd} F => ok_palm_in T E_read_integer E_is_between E_is_day E_is_pattern len_palm_in (body_F (p_palm_in  )) F) (fun _ _ _ _ _ _ us hl => match us, hl with | [_], _ => rfl)
  have E_male_in : Df l.prog w K mg base ("male_in" : Str) 4 [("words" : Str)] (spF K R_male_in) := d_male_in.df (fun {f fd} F => ok_male_in T E_read_integer E_is_day E_is_between len_male_in (body_F (p_male_in  )) F) (fun _ _ _ _ _ _ us hl => match us, hl with | [_], _ => rfl)
  have E_baskets : Df l.prog w K mg base ("baskets" : Str) 4 [("grove" : Str), ("year" : Str)] (spF K (R_baskets C_Grove)) := d_baskets.df (fun {f fd} F => ok_baskets T E_check_grove E_check_year E_baskets_in len_baskets (body_F (p_baskets  )) F) (fun _ _ _ _ _ _ us hl => match us, hl with | [_, _], _ => rfl)
  have E_check_plants : Df l.prog w K mg base ("check_plants" : Str) 4 [("life" : Str), ("plants" : Str)] (spF K R_check_plants) := d_check_plants.df (fun {f fd} F => ok_check_plants T E_check_life E_are_plants_of len_check_plants (body_F (p_check_plants  )) F) (fun _ _ _ _ _ _ us hl => match us, hl with | [_, _], _ => rfl)
  have E_best_plants : Df l.prog w K mg base ("best_plants" : Str) 4 [("life" : Str), ("many" : Str)] (spF K R_best_plants) := d_best_plants.df (fun {f fd} F => ok_best_plants T E_check_life E_check_number E_even_plants E_most_always len_best_plants (body_F (p_best_plants  )) F) (fun _ _ _ _ _ _ us hl => match us, hl with | [_, _], _ => rfl)
  have E_check_enough : Df l.prog w K mg base ("check_enough" : Str) 4 [("life" : Str), ("least" : Str)] (spF K R_check_enough) := d_check_enough.df (fun {f fd} F => ok_check_enough T E_check_life E_check_number len_check_enough (body_F (p_check_enough  )) F) (fun _ _ _ _ _ _ us hl => match us, hl with | [_, _], _ => rfl)
  have E_years_of_lot : Df l.prog w K mg base ("years_of_lot" : Str) 4 [("grove" : Str), ("lot" : Str)] (spF K (R_years_of_lot C_Grove)) := d_years_of_lot.df (fun {f fd} F => ok_years_of_lot T E_bits_of len_years_of_lot (body_F (p_years_of_lot  )) F) (fun _ _ _ _ _ _ us hl => match us, hl with | [_, _], _ => rfl)
  have E_sums_of : Df l.prog w K mg base ("sums_of" : Str) 4 [("grove" : Str)] (spF K (R_sums_of C_Grove)) := d_sums_of.df (fun {f fd} F => ok_sums_of T E_baskets_in len_sums_of (body_F (p_sums_of  )) F) (fun _ _ _ _ _ _ us hl => match us, hl with | [_], _ => rfl)
  have E_check_shifts_few : Df l.prog w K mg base ("check_shifts_few" : Str) 4 [("grove" : Str)] (spF K (R_check_shifts_few C_Grove)) := d_check_shifts_few.df (fun {f fd} F => ok_check_shifts_few T E_check_grove E_shift_count len_check_shifts_few (body_F (p_check_shifts_few  )) F) (fun _ _ _ _ _ _ us hl => match us, hl with | [_], _ => rfl)
  have E_told_evenest : Df l.prog w K mg base ("told_evenest" : Str) 4 [("grove" : Str)] (spF K (R_told_evenest C_Grove)) := d_told_evenest.df (fun {f fd} F => ok_told_evenest T E_rows_shifted E_all_shifts E_sums_by len_told_evenest (body_F (p_told_evenest  )) F) (fun _ _ _ _ _ _ us hl => match us, hl with | [_], _ => rfl)
  have E_GroveReader_takes : Dmt l.prog w K mg base C_GroveReader ("takes" : Str) 5 [("self" : Str), ("line" : Str)] (spO K (R_GroveReader_takes C_GroveReader)) := d_GroveReader_takes.dm cl_GroveReader.c (fun {f fd} F => ok_GroveReader_takes T E_GroveReader_takes_head E_read_integer E_GroveReader_is_new E_palm_in E_male_in len_GroveReader_takes (body_O (p_GroveReader_takes k_GroveReader )) F) (fun _ _ _ _ _ _ us hl => match us, hl with | [_, _], _ => rfl)
  have E_bearing : Df l.prog w K mg base ("bearing" : Str) 5 [("life" : Str), ("plants" : Str), ("year" : Str)] (spF K R_bearing) := d_bearing.df (fun {f fd} F => ok_bearing T E_check_plants E_check_year E_bearing_by len_bearing (body_F (p_bearing  )) F) (fun _ _ _ _ _ _ us hl => match us, hl with | [_, _, _], _ => rfl)
  have E_least_bearing : Df l.prog w K mg base ("least_bearing" : Str) 5 [("life" : Str), ("plants" : Str)] (spF K R_least_bearing) := d_least_bearing.df (fun {f fd} F => ok_least_bearing T E_check_plants E_bearings_of len_least_bearing (body_F (p_least_bearing  )) F) (fun _ _ _ _ _ _ us hl => match us, hl with | [_, _], _ => rfl)
  have E_most_bearing : Df l.prog w K mg base ("most_bearing" : Str) 5 [("life" : Str), ("plants" : Str)] (spF K R_most_bearing) := d_most_bearing.df (fun {f fd} F => ok_most_bearing T E_check_plants E_bearings_of len_most_bearing (body_F (p_most_bearing  )) F) (fun _ _ _ _ _ _ us hl => match us, hl with | [_, _], _ => rfl)
  have E_enough_plants : Df l.prog w K mg base ("enough_plants" : Str) 5 [("life" : Str), ("least" : Str)] (spF K R_enough_plants) := d_enough_plants.df (fun {f fd} F => ok_enough_plants T E_check_enough E_even_plants len_enough_plants (body_F (p_enough_plants  )) F) (fun _ _ _ _ _ _ us hl => match us, hl with | [_, _], _ => rfl)
  have E_told_years : Df l.prog w K mg base ("told_years" : Str) 5 [("grove" : Str), ("years_in" : Str), ("word" : Str)] (spF K (R_told_years K C_Grove S_years_in)) := d_told_years.df (fun {f fd} F => ok_told_years T E_Grove_palm_names E_lap_of E_lots_by_size (fun f sp e => by rcases hA_years_in f sp e with ⟨rfl, rfl⟩ <;> first | exact E_years_of_lot.held hm_years_of_lot) len_told_years (body_F (p_told_years k_Grove )) F) (fun _ _ _ _ _ _ us hl => match us, hl with | [_, _, _], _ => rfl)
  have E_most_baskets : Df l.prog w K mg base ("most_baskets" : Str) 5 [("grove" : Str)] (spF K (R_most_baskets C_Grove)) := d_most_baskets.df (fun {f fd} F => ok_most_baskets T E_check_grove E_sums_of len_most_baskets (body_F (p_most_baskets  )) F) (fun _ _ _ _ _ _ us hl => match us, hl with | [_], _ => rfl)
  have E_least_baskets : Df l.prog w K mg base ("least_baskets" : Str) 5 [("grove" : Str)] (spF K (R_least_baskets C_Grove)) := d_least_baskets.df (fun {f fd} F => ok_least_baskets T E_check_grove E_sums_of len_least_baskets (body_F (p_least_baskets  )) F) (fun _ _ _ _ _ _ us hl => match us, hl with | [_], _ => rfl)
  have E_mean_baskets : Df l.prog w K mg base ("mean_baskets" : Str) 5 [("grove" : Str)] (spF K (R_mean_baskets C_Grove)) := d_mean_baskets.df (fun {f fd} F => ok_mean_baskets T E_check_grove E_reduced E_sums_of len_mean_baskets (body_F (p_mean_baskets  )) F) (fun _ _ _ _ _ _ us hl => match us, hl with | [_], _ => rfl)
  have E_how_many_with : Df l.prog w K mg base ("how_many_with" : Str) 5 [("grove" : Str), ("number" : Str)] (spF K (R_how_many_with C_Grove)) := d_how_many_with.df (fun {f fd} F => ok_how_many_with T E_check_baskets E_sums_of len_how_many_with (body_F (p_how_many_with  )) F) (fun _ _ _ _ _ _ us hl => match us, hl with | [_, _], _ => rfl)
  have E_evenest : Df l.prog w K mg base ("evenest" : Str) 5 [("grove" : Str)] (spF K (R_evenest C_Grove)) := d_evenest.df (fun {f fd} F => ok_evenest T E_check_shifts_few E_told_evenest len_evenest (body_F (p_evenest  )) F) (fun _ _ _ _ _ _ us hl => match us, hl with | [_], _ => rfl)
  have E_Grove___init__ : Di l.prog w K mg base ("Grove" : Str) C_Grove 6 [("self" : Str), ("text" : Str)] (spO K (R_Grove___init__ C_Grove)) := d_Grove___init__.di cl_Grove (fun {f fd} F => ok_Grove___init__ T E_GroveReader___init__ E_GroveReader_takes len_Grove___init__ (body_O (p_Grove___init__ k_Grove k_GroveReader )) F) (fun _ _ _ _ _ _ us hl => match us, hl with | [_, _], _ => rfl)
  have E_all_bear : Df l.prog w K mg base ("all_bear" : Str) 6 [("grove" : Str)] (spF K (R_all_bear C_Grove)) := d_all_bear.df (fun {f fd} F => ok_all_bear T ⟨_, hm_years_of_lot, rfl⟩ E_check_grove E_told_years len_all_bear (body_F (p_all_bear  hS_years_in_years_of_lot)) F) (fun _ _ _ _ _ _ us hl => match us, hl with | [_], _ => rfl)
  have E_grove_of : Df l.prog w K mg base ("grove_of" : Str) 8 [("turns" : Str), ("hands" : Str), ("palms" : Str), ("males" : Str)] (spF K (R_grove_of C_Grove)) := d_grove_of.df (fun {f fd} F => ok_grove_of T E_Grove___init__ len_grove_of (body_F (p_grove_of  )) F) (fun _ _ _ _ _ _ us hl => match us, hl with | [_, _, _, _], _ => rfl)
  have E_shifted_by : Df l.prog w K mg base ("shifted_by" : Str) 9 [("grove" : Str), ("shifts" : Str)] (spF K (R_shifted_by C_Grove)) := d_shifted_by.df (fun {f fd} F => ok_shifted_by T E_Grove_palms E_grove_of E_Grove_males E_Grove_hands E_Grove_turns len_shifted_by (body_F (p_shifted_by k_Grove )) F) (fun _ _ _ _ _ _ us hl => match us, hl with | [_, _], _ => rfl)
  have E_shifted : Df l.prog w K mg base ("shifted" : Str) 10 [("grove" : Str), ("shifts" : Str)] (spF K (R_shifted C_Grove)) := d_shifted.df (fun {f fd} F => ok_shifted T E_check_grove E_are_shifts E_shifted_by len_shifted (body_F (p_shifted  )) F) (fun _ _ _ _ _ _ us hl => match us, hl with | [_, _], _ => rfl)
  have E__law_right : Df l.prog w K mg base ("_law_right" : Str) 11 [("pot" : Str)] (spO K R__law_right) := d__law_right.df (fun {f fd} F => ok__law_right T E__law_take E_Grove___init__ E_shifted E_bearing E_baskets E_most_baskets E_least_baskets E_least_bearing E_most_bearing E_mean_baskets E_best_plants E_evenest E_enough_plants E_all_bear E_how_many_with len__law_right (body_O (p__law_right  )) F) (fun _ _ _ _ _ _ us hl => match us, hl with | [_], _ => rfl)
  exact ok_law T E__law_cells E__law_pot E__law_right len_law (body_F (p_law  )) FF
end K92


open PySem PySem.W PyProof.Rows L2 Dm in
set_option maxRecDepth 100000 in
set_option maxHeartbeats 0 in
theorem PySem.Challenge.cw_palmsinturn_k92_whole_years_and_plants_holds : PySem.Challenge.rw_palmsinturn_k92_whole_years_and_plants.Holds := by
  w_on; o_law; k_head; (case hw => w_witness2)
  k_fill
  refine L2.walk_of (l := PySem.Challenge.rw_palmsinturn_k92_whole_years_and_plants) (n := 63) (k := 12) (x := "script") (CX := fun _ => CX0) (sp := fun w => spF _ K92.R_law) rfl (by decide) rfl ⟨rfl, by decide, by decide⟩ (fun w h Y => PySem.W.kIn_of Y) ?F (fun _ H a ns _ _ hS => ⟨H, [.scr ns], .v (.bl true), Evl.Ex.refl _, ⟨_, _, rfl, ⟨a, rfl, hS⟩, rfl⟩, ⟨ns, true, K92.S_law ns, rfl, rfl⟩, fun v F2 H2 u rv => rv⟩) (fun _ _ _ _ _ z => z)
  case F =>
    intro w mg fa h KX G hmg
    refine' K92.all_mk hmg ?T ?cl_GroveReader ?k_GroveReader ?cl_Grove ?k_Grove ?d_is_integer ?d_is_name ?d_read_integer ?d_common ?d_is_pattern ?d_GroveReader___init__ ?d_Grove_turns ?d_Grove_hands ?d_Grove_palms ?d_Grove_males ?d_Grove_palm_names ?d_Grove_years_of ?d_Grove_dates_of ?d_check_grove ?d_bearing_by ?d_even_plants ?d_most_always ?d_lap_of ?d_lots_by_size ?d_sums_by ?d__law_pot ?d__law_take ?d__law_cells ?d_is_between ?d_reduced ?d_GroveReader_is_new ?d_bears_in ?d_bearings_of ?d_lengths_of ?d_GroveReader_takes_head ?d_is_day ?d_check_year ?d_baskets_in ?d_check_life ?d_are_plants_of ?d_check_number ?d_bits_of ?d_check_baskets ?d_are_shifts ?d_shift_count ?d_all_shifts ?d_rows_shifted ?d_palm_in ?d_male_in ?d_baskets ?d_check_plants ?d_best_plants ?d_check_enough ?d_years_of_lot ?d_sums_of ?d_check_shifts_few ?d_told_evenest ?d_GroveReader_takes ?d_bearing ?d_least_bearing ?d_most_bearing ?d_enough_plants ?d_told_years ?d_most_baskets ?d_least_baskets ?d_mean_baskets ?d_how_many_with ?d_evenest ?d_Grove___init__ ?d_all_bear ?d_grove_of ?d_shifted_by ?d_shifted ?d__law_right ?d_law
    (case cl_GroveReader => refine' Dm.mkCls KX G ?a_cl_GroveReader ?pg_cl_GroveReader ?hd_cl_GroveReader ?po_cl_GroveReader ?sa_cl_GroveReader ?mk_cl_GroveReader ?kc_cl_GroveReader; (case a_cl_GroveReader => k_is); (case pg_cl_GroveReader => k_is); (case hd_cl_GroveReader => k_is); (case po_cl_GroveReader => k_is); (case sa_cl_GroveReader => k_is); (case mk_cl_GroveReader => k_is); (case kc_cl_GroveReader => k_is))
    (case cl_Grove => refine' Dm.mkCls KX G ?a_cl_Grove ?pg_cl_Grove ?hd_cl_Grove ?po_cl_Grove ?sa_cl_Grove ?mk_cl_Grove ?kc_cl_Grove; (case a_cl_Grove => k_is); (case pg_cl_Grove => k_is); (case hd_cl_Grove => k_is); (case po_cl_Grove => k_is); (case sa_cl_Grove => k_is); (case mk_cl_Grove => k_is); (case kc_cl_Grove => k_is))
    case T =>
      refine' { c_FIGURES := ?c_FIGURES, c_GROVE := ?c_GROVE, c_LAST_DAY := ?c_LAST_DAY, c_LAST_YEAR := ?c_LAST_YEAR, c_LETTERS := ?c_LETTERS, c_MALE := ?c_MALE, c_MOST_BASKETS := ?c_MOST_BASKETS, c_MOST_DATES := ?c_MOST_DATES, c_MOST_EVERY := ?c_MOST_EVERY, c_MOST_HANDS := ?c_MOST_HANDS, c_MOST_KEEP := ?c_MOST_KEEP, c_MOST_LOADS := ?c_MOST_LOADS, c_MOST_LONG := ?c_MOST_LONG, c_MOST_MALES := ?c_MOST_MALES, c_MOST_PALMS := ?c_MOST_PALMS, c_MOST_PLANTS := ?c_MOST_PLANTS, c_MOST_SHIFTS := ?c_MOST_SHIFTS, c_MOST_SIGNS_groves := ?c_MOST_SIGNS_groves, c_MOST_SIGNS_words := ?c_MOST_SIGNS_words, c_MOST_TURNS := ?c_MOST_TURNS, c_NEVER := ?c_NEVER, c_PALM := ?c_PALM, c_SIXTY_bearing := ?c_SIXTY_bearing, c_SIXTY_evening := ?c_SIXTY_evening, c_YEAR := ?c_YEAR, b_abs := ?b_abs, b_all := ?b_all, b_bool := ?b_bool, b_enumerate := ?b_enumerate, b_int := ?b_int, b_isinstance := ?b_isinstance, b_len := ?b_len, b_list := ?b_list, b_max := ?b_max, b_min := ?b_min, b_range := ?b_range, b_sorted := ?b_sorted, b_str := ?b_str, b_sum := ?b_sum, b_tuple := ?b_tuple, b_zip := ?b_zip }
      (case c_FIGURES => refine' Dm.mkStr KX G ?a_c_FIGURES; (case a_c_FIGURES => k_is))
      (case c_GROVE => refine' Dm.mkStr KX G ?a_c_GROVE; (case a_c_GROVE => k_is))
      (case c_LAST_DAY => refine' Dm.mkInt KX G ?a_c_LAST_DAY; (case a_c_LAST_DAY => k_is))
      (case c_LAST_YEAR => refine' Dm.mkInt KX G ?a_c_LAST_YEAR; (case a_c_LAST_YEAR => k_is))
      (case c_LETTERS => refine' Dm.mkStr KX G ?a_c_LETTERS; (case a_c_LETTERS => k_is))
      (case c_MALE => refine' Dm.mkStr KX G ?a_c_MALE; (case a_c_MALE => k_is))
      (case c_MOST_BASKETS => refine' Dm.mkInt KX G ?a_c_MOST_BASKETS; (case a_c_MOST_BASKETS => k_is))
      (case c_MOST_DATES => refine' Dm.mkInt KX G ?a_c_MOST_DATES; (case a_c_MOST_DATES => k_is))
      (case c_MOST_EVERY => refine' Dm.mkInt KX G ?a_c_MOST_EVERY; (case a_c_MOST_EVERY => k_is))
      (case c_MOST_HANDS => refine' Dm.mkInt KX G ?a_c_MOST_HANDS; (case a_c_MOST_HANDS => k_is))
      (case c_MOST_KEEP => refine' Dm.mkInt KX G ?a_c_MOST_KEEP; (case a_c_MOST_KEEP => k_is))
      (case c_MOST_LOADS => refine' Dm.mkInt KX G ?a_c_MOST_LOADS; (case a_c_MOST_LOADS => k_is))
      (case c_MOST_LONG => refine' Dm.mkInt KX G ?a_c_MOST_LONG; (case a_c_MOST_LONG => k_is))
      (case c_MOST_MALES => refine' Dm.mkInt KX G ?a_c_MOST_MALES; (case a_c_MOST_MALES => k_is))
      (case c_MOST_PALMS => refine' Dm.mkInt KX G ?a_c_MOST_PALMS; (case a_c_MOST_PALMS => k_is))
      (case c_MOST_PLANTS => refine' Dm.mkInt KX G ?a_c_MOST_PLANTS; (case a_c_MOST_PLANTS => k_is))
      (case c_MOST_SHIFTS => refine' Dm.mkInt KX G ?a_c_MOST_SHIFTS; (case a_c_MOST_SHIFTS => k_is))
      (case c_MOST_SIGNS_groves => refine' Dm.mkInt KX G ?a_c_MOST_SIGNS_groves; (case a_c_MOST_SIGNS_groves => k_is))
      (case c_MOST_SIGNS_words => refine' Dm.mkInt KX G ?a_c_MOST_SIGNS_words; (case a_c_MOST_SIGNS_words => k_is))
      (case c_MOST_TURNS => refine' Dm.mkInt KX G ?a_c_MOST_TURNS; (case a_c_MOST_TURNS => k_is))
      (case c_NEVER => refine' Dm.mkStr KX G ?a_c_NEVER; (case a_c_NEVER => k_is))
      (case c_PALM => refine' Dm.mkStr KX G ?a_c_PALM; (case a_c_PALM => k_is))
      (case c_SIXTY_bearing => refine' Dm.mkInt KX G ?a_c_SIXTY_bearing; (case a_c_SIXTY_bearing => k_is))
      (case c_SIXTY_evening => refine' Dm.mkInt KX G ?a_c_SIXTY_evening; (case a_c_SIXTY_evening => k_is))
      (case c_YEAR => refine' Dm.mkStr KX G ?a_c_YEAR; (case a_c_YEAR => k_is))
      (case b_abs => refine' Dm.mkNo KX G ?a_b_abs; (case a_b_abs => k_is))
      (case b_all => refine' Dm.mkNo KX G ?a_b_all; (case a_b_all => k_is))
      (case b_bool => refine' Dm.mkNo KX G ?a_b_bool; (case a_b_bool => k_is))
      (case b_enumerate => refine' Dm.mkNo KX G ?a_b_enumerate; (case a_b_enumerate => k_is))
      (case b_int => refine' Dm.mkNo KX G ?a_b_int; (case a_b_int => k_is))
      (case b_isinstance => refine' Dm.mkNo KX G ?a_b_isinstance; (case a_b_isinstance => k_is))
      (case b_len => refine' Dm.mkNo KX G ?a_b_len; (case a_b_len => k_is))
      (case b_list => refine' Dm.mkNo KX G ?a_b_list; (case a_b_list => k_is))
      (case b_max => refine' Dm.mkNo KX G ?a_b_max; (case a_b_max => k_is))
      (case b_min => refine' Dm.mkNo KX G ?a_b_min; (case a_b_min => k_is))
      (case b_range => refine' Dm.mkNo KX G ?a_b_range; (case a_b_range => k_is))
      (case b_sorted => refine' Dm.mkNo KX G ?a_b_sorted; (case a_b_sorted => k_is))
      (case b_str => refine' Dm.mkNo KX G ?a_b_str; (case a_b_str => k_is))
      (case b_sum => refine' Dm.mkNo KX G ?a_b_sum; (case a_b_sum => k_is))
      (case b_tuple => refine' Dm.mkNo KX G ?a_b_tuple; (case a_b_tuple => k_is))
      (case b_zip => refine' Dm.mkNo KX G ?a_b_zip; (case a_b_zip => k_is))
    (case k_GroveReader => refine' K92.mkCK_GroveReader ?pg_k_GroveReader ?hd_k_GroveReader ?po_k_GroveReader ?sa_k_GroveReader ?ha_k_GroveReader ?hn_k_GroveReader ?htk_k_GroveReader ?hm_k_GroveReader ?n_own_head_k_GroveReader ?n_own_palms_k_GroveReader ?n_own_males_k_GroveReader; (case pg_k_GroveReader => k_is); (case hd_k_GroveReader => k_is); (case po_k_GroveReader => k_is); (case sa_k_GroveReader => k_is); (case ha_k_GroveReader => k_is); (case hn_k_GroveReader => k_is); (case htk_k_GroveReader => k_is); (case hm_k_GroveReader => k_is); (case n_own_head_k_GroveReader => k_is); (case n_own_palms_k_GroveReader => k_is); (case n_own_males_k_GroveReader => k_is))
    (case k_Grove => refine' K92.mkCK_Grove ?pg_k_Grove ?hd_k_Grove ?po_k_Grove ?sa_k_Grove ?ha_k_Grove ?hn_k_Grove ?htk_k_Grove ?hm_k_Grove ?n_own_text_k_Grove ?n_own_head_k_Grove ?n_own_palms_k_Grove ?n_own_males_k_Grove; (case pg_k_Grove => k_is); (case hd_k_Grove => k_is); (case po_k_Grove => k_is); (case sa_k_Grove => k_is); (case ha_k_Grove => k_is); (case hn_k_Grove => k_is); (case htk_k_Grove => k_is); (case hm_k_Grove => k_is); (case n_own_text_k_Grove => k_is); (case n_own_head_k_Grove => k_is); (case n_own_palms_k_Grove => k_is); (case n_own_males_k_Grove => k_is))
    (case d_is_integer => refine' Dm.mkDef KX G ?a_d_is_integer ?l_d_is_integer ?c_d_is_integer ?k_d_is_integer; (case a_d_is_integer => k_is); (case l_d_is_integer => k_is); (case c_d_is_integer => k_is); (case k_d_is_integer => k_is))
    (case d_is_name => refine' Dm.mkDef KX G ?a_d_is_name ?l_d_is_name ?c_d_is_name ?k_d_is_name; (case a_d_is_name => k_is); (case l_d_is_name => k_is); (case c_d_is_name => k_is); (case k_d_is_name => k_is))
    (case d_read_integer => refine' Dm.mkDef KX G ?a_d_read_integer ?l_d_read_integer ?c_d_read_integer ?k_d_read_integer; (case a_d_read_integer => k_is); (case l_d_read_integer => k_is); (case c_d_read_integer => k_is); (case k_d_read_integer => k_is))
    (case d_common => refine' Dm.mkDef KX G ?a_d_common ?l_d_common ?c_d_common ?k_d_common; (case a_d_common => k_is); (case l_d_common => k_is); (case c_d_common => k_is); (case k_d_common => k_is))
    (case d_is_pattern => refine' Dm.mkDef KX G ?a_d_is_pattern ?l_d_is_pattern ?c_d_is_pattern ?k_d_is_pattern; (case a_d_is_pattern => k_is); (case l_d_is_pattern => k_is); (case c_d_is_pattern => k_is); (case k_d_is_pattern => k_is))
    (case d_GroveReader___init__ => refine' Dm.mkMeth ?a_d_GroveReader___init__ ?i_d_GroveReader___init__ ?l_d_GroveReader___init__ ?c_d_GroveReader___init__ ?k_d_GroveReader___init__; (case a_d_GroveReader___init__ => k_is); (case i_d_GroveReader___init__ => k_is); (case l_d_GroveReader___init__ => k_is); (case c_d_GroveReader___init__ => k_is); (case k_d_GroveReader___init__ => k_is))
    (case d_Grove_turns => refine' Dm.mkProp ?a_d_Grove_turns ?g_d_Grove_turns ?t_d_Grove_turns ?r_d_Grove_turns ?l_d_Grove_turns ?c_d_Grove_turns ?k_d_Grove_turns; (case a_d_Grove_turns => k_is); (case g_d_Grove_turns => k_is); (case t_d_Grove_turns => k_is); (case r_d_Grove_turns => k_is); (case l_d_Grove_turns => k_is); (case c_d_Grove_turns => k_is); (case k_d_Grove_turns => k_is))
    (case d_Grove_hands => refine' Dm.mkProp ?a_d_Grove_hands ?g_d_Grove_hands ?t_d_Grove_hands ?r_d_Grove_hands ?l_d_Grove_hands ?c_d_Grove_hands ?k_d_Grove_hands; (case a_d_Grove_hands => k_is); (case g_d_Grove_hands => k_is); (case t_d_Grove_hands => k_is); (case r_d_Grove_hands => k_is); (case l_d_Grove_hands => k_is); (case c_d_Grove_hands => k_is); (case k_d_Grove_hands => k_is))
    (case d_Grove_palms => refine' Dm.mkProp ?a_d_Grove_palms ?g_d_Grove_palms ?t_d_Grove_palms ?r_d_Grove_palms ?l_d_Grove_palms ?c_d_Grove_palms ?k_d_Grove_palms; (case a_d_Grove_palms => k_is); (case g_d_Grove_palms => k_is); (case t_d_Grove_palms => k_is); (case r_d_Grove_palms => k_is); (case l_d_Grove_palms => k_is); (case c_d_Grove_palms => k_is); (case k_d_Grove_palms => k_is))
    (case d_Grove_males => refine' Dm.mkProp ?a_d_Grove_males ?g_d_Grove_males ?t_d_Grove_males ?r_d_Grove_males ?l_d_Grove_males ?c_d_Grove_males ?k_d_Grove_males; (case a_d_Grove_males => k_is); (case g_d_Grove_males => k_is); (case t_d_Grove_males => k_is); (case r_d_Grove_males => k_is); (case l_d_Grove_males => k_is); (case c_d_Grove_males => k_is); (case k_d_Grove_males => k_is))
    (case d_Grove_palm_names => refine' Dm.mkMeth ?a_d_Grove_palm_names ?i_d_Grove_palm_names ?l_d_Grove_palm_names ?c_d_Grove_palm_names ?k_d_Grove_palm_names; (case a_d_Grove_palm_names => k_is); (case i_d_Grove_palm_names => k_is); (case l_d_Grove_palm_names => k_is); (case c_d_Grove_palm_names => k_is); (case k_d_Grove_palm_names => k_is))
    (case d_Grove_years_of => refine' Dm.mkMeth ?a_d_Grove_years_of ?i_d_Grove_years_of ?l_d_Grove_years_of ?c_d_Grove_years_of ?k_d_Grove_years_of; (case a_d_Grove_years_of => k_is); (case i_d_Grove_years_of => k_is); (case l_d_Grove_years_of => k_is); (case c_d_Grove_years_of => k_is); (case k_d_Grove_years_of => k_is))
    (case d_Grove_dates_of => refine' Dm.mkMeth ?a_d_Grove_dates_of ?i_d_Grove_dates_of ?l_d_Grove_dates_of ?c_d_Grove_dates_of ?k_d_Grove_dates_of; (case a_d_Grove_dates_of => k_is); (case i_d_Grove_dates_of => k_is); (case l_d_Grove_dates_of => k_is); (case c_d_Grove_dates_of => k_is); (case k_d_Grove_dates_of => k_is))
    (case d_check_grove => refine' Dm.mkDef KX G ?a_d_check_grove ?l_d_check_grove ?c_d_check_grove ?k_d_check_grove; (case a_d_check_grove => k_is); (case l_d_check_grove => k_is); (case c_d_check_grove => k_is); (case k_d_check_grove => k_is))
    (case d_bearing_by => refine' Dm.mkDef KX G ?a_d_bearing_by ?l_d_bearing_by ?c_d_bearing_by ?k_d_bearing_by; (case a_d_bearing_by => k_is); (case l_d_bearing_by => k_is); (case c_d_bearing_by => k_is); (case k_d_bearing_by => k_is))
    (case d_even_plants => refine' Dm.mkDef KX G ?a_d_even_plants ?l_d_even_plants ?c_d_even_plants ?k_d_even_plants; (case a_d_even_plants => k_is); (case l_d_even_plants => k_is); (case c_d_even_plants => k_is); (case k_d_even_plants => k_is))
    (case d_most_always => refine' Dm.mkDef KX G ?a_d_most_always ?l_d_most_always ?c_d_most_always ?k_d_most_always; (case a_d_most_always => k_is); (case l_d_most_always => k_is); (case c_d_most_always => k_is); (case k_d_most_always => k_is))
    (case d_lap_of => refine' Dm.mkDef KX G ?a_d_lap_of ?l_d_lap_of ?c_d_lap_of ?k_d_lap_of; (case a_d_lap_of => k_is); (case l_d_lap_of => k_is); (case c_d_lap_of => k_is); (case k_d_lap_of => k_is))
    (case d_lots_by_size => refine' Dm.mkDef KX G ?a_d_lots_by_size ?l_d_lots_by_size ?c_d_lots_by_size ?k_d_lots_by_size; (case a_d_lots_by_size => k_is); (case l_d_lots_by_size => k_is); (case c_d_lots_by_size => k_is); (case k_d_lots_by_size => k_is))
    (case d_sums_by => refine' Dm.mkDef KX G ?a_d_sums_by ?l_d_sums_by ?c_d_sums_by ?k_d_sums_by; (case a_d_sums_by => k_is); (case l_d_sums_by => k_is); (case c_d_sums_by => k_is); (case k_d_sums_by => k_is))
    (case d__law_pot => refine' Dm.mkDef KX G ?a_d__law_pot ?l_d__law_pot ?c_d__law_pot ?k_d__law_pot; (case a_d__law_pot => k_is); (case l_d__law_pot => k_is); (case c_d__law_pot => k_is); (case k_d__law_pot => k_is))
    (case d__law_take => refine' Dm.mkDef KX G ?a_d__law_take ?l_d__law_take ?c_d__law_take ?k_d__law_take; (case a_d__law_take => k_is); (case l_d__law_take => k_is); (case c_d__law_take => k_is); (case k_d__law_take => k_is))
    (case d__law_cells => refine' Dm.mkDef KX G ?a_d__law_cells ?l_d__law_cells ?c_d__law_cells ?k_d__law_cells; (case a_d__law_cells => k_is); (case l_d__law_cells => k_is); (case c_d__law_cells => k_is); (case k_d__law_cells => k_is))
    (case d_is_between => refine' Dm.mkDef KX G ?a_d_is_between ?l_d_is_between ?c_d_is_between ?k_d_is_between; (case a_d_is_between => k_is); (case l_d_is_between => k_is); (case c_d_is_between => k_is); (case k_d_is_between => k_is))
    (case d_reduced => refine' Dm.mkDef KX G ?a_d_reduced ?l_d_reduced ?c_d_reduced ?k_d_reduced; (case a_d_reduced => k_is); (case l_d_reduced => k_is); (case c_d_reduced => k_is); (case k_d_reduced => k_is))
    (case d_GroveReader_is_new => refine' Dm.mkMeth ?a_d_GroveReader_is_new ?i_d_GroveReader_is_new ?l_d_GroveReader_is_new ?c_d_GroveReader_is_new ?k_d_GroveReader_is_new; (case a_d_GroveReader_is_new => k_is); (case i_d_GroveReader_is_new => k_is); (case l_d_GroveReader_is_new => k_is); (case c_d_GroveReader_is_new => k_is); (case k_d_GroveReader_is_new => k_is))
    (case d_bears_in => refine' Dm.mkDef KX G ?a_d_bears_in ?l_d_bears_in ?c_d_bears_in ?k_d_bears_in; (case a_d_bears_in => k_is); (case l_d_bears_in => k_is); (case c_d_bears_in => k_is); (case k_d_bears_in => k_is))
    (case d_bearings_of => refine' Dm.mkDef KX G ?a_d_bearings_of ?l_d_bearings_of ?c_d_bearings_of ?k_d_bearings_of; (case a_d_bearings_of => k_is); (case l_d_bearings_of => k_is); (case c_d_bearings_of => k_is); (case k_d_bearings_of => k_is))
    (case d_lengths_of => refine' Dm.mkDef KX G ?a_d_lengths_of ?l_d_lengths_of ?c_d_lengths_of ?k_d_lengths_of; (case a_d_lengths_of => k_is); (case l_d_lengths_of => k_is); (case c_d_lengths_of => k_is); (case k_d_lengths_of => k_is))
    (case d_GroveReader_takes_head => refine' Dm.mkMeth ?a_d_GroveReader_takes_head ?i_d_GroveReader_takes_head ?l_d_GroveReader_takes_head ?c_d_GroveReader_takes_head ?k_d_GroveReader_takes_head; (case a_d_GroveReader_takes_head => k_is); (case i_d_GroveReader_takes_head => k_is); (case l_d_GroveReader_takes_head => k_is); (case c_d_GroveReader_takes_head => k_is); (case k_d_GroveReader_takes_head => k_is))
    (case d_is_day => refine' Dm.mkDef KX G ?a_d_is_day ?l_d_is_day ?c_d_is_day ?k_d_is_day; (case a_d_is_day => k_is); (case l_d_is_day => k_is); (case c_d_is_day => k_is); (case k_d_is_day => k_is))
    (case d_check_year => refine' Dm.mkDef KX G ?a_d_check_year ?l_d_check_year ?c_d_check_year ?k_d_check_year; (case a_d_check_year => k_is); (case l_d_check_year => k_is); (case c_d_check_year => k_is); (case k_d_check_year => k_is))
    (case d_baskets_in => refine' Dm.mkDef KX G ?a_d_baskets_in ?l_d_baskets_in ?c_d_baskets_in ?k_d_baskets_in; (case a_d_baskets_in => k_is); (case l_d_baskets_in => k_is); (case c_d_baskets_in => k_is); (case k_d_baskets_in => k_is))
    (case d_check_life => refine' Dm.mkDef KX G ?a_d_check_life ?l_d_check_life ?c_d_check_life ?k_d_check_life; (case a_d_check_life => k_is); (case l_d_check_life => k_is); (case c_d_check_life => k_is); (case k_d_check_life => k_is))
    (case d_are_plants_of => refine' Dm.mkDef KX G ?a_d_are_plants_of ?l_d_are_plants_of ?c_d_are_plants_of ?k_d_are_plants_of; (case a_d_are_plants_of => k_is); (case l_d_are_plants_of => k_is); (case c_d_are_plants_of => k_is); (case k_d_are_plants_of => k_is))
    (case d_check_number => refine' Dm.mkDef KX G ?a_d_check_number ?l_d_check_number ?c_d_check_number ?k_d_check_number; (case a_d_check_number => k_is); (case l_d_check_number => k_is); (case c_d_check_number => k_is); (case k_d_check_number => k_is))
    (case d_bits_of => refine' Dm.mkDef KX G ?a_d_bits_of ?l_d_bits_of ?c_d_bits_of ?k_d_bits_of; (case a_d_bits_of => k_is); (case l_d_bits_of => k_is); (case c_d_bits_of => k_is); (case k_d_bits_of => k_is))
    (case d_check_baskets => refine' Dm.mkDef KX G ?a_d_check_baskets ?l_d_check_baskets ?c_d_check_baskets ?k_d_check_baskets; (case a_d_check_baskets => k_is); (case l_d_check_baskets => k_is); (case c_d_check_baskets => k_is); (case k_d_check_baskets => k_is))
    (case d_are_shifts => refine' Dm.mkDef KX G ?a_d_are_shifts ?l_d_are_shifts ?c_d_are_shifts ?k_d_are_shifts; (case a_d_are_shifts => k_is); (case l_d_are_shifts => k_is); (case c_d_are_shifts => k_is); (case k_d_are_shifts => k_is))
    (case d_shift_count => refine' Dm.mkDef KX G ?a_d_shift_count ?l_d_shift_count ?c_d_shift_count ?k_d_shift_count; (case a_d_shift_count => k_is); (case l_d_shift_count => k_is); (case c_d_shift_count => k_is); (case k_d_shift_count => k_is))
    (case d_all_shifts => refine' Dm.mkDef KX G ?a_d_all_shifts ?l_d_all_shifts ?c_d_all_shifts ?k_d_all_shifts; (case a_d_all_shifts => k_is); (case l_d_all_shifts => k_is); (case c_d_all_shifts => k_is); (case k_d_all_shifts => k_is))
    (case d_rows_shifted => refine' Dm.mkDef KX G ?a_d_rows_shifted ?l_d_rows_shifted ?c_d_rows_shifted ?k_d_rows_shifted; (case a_d_rows_shifted => k_is); (case l_d_rows_shifted => k_is); (case c_d_rows_shifted => k_is); (case k_d_rows_shifted => k_is))
    (case d_palm_in => refine' Dm.mkDef KX G ?a_d_palm_in ?l_d_palm_in ?c_d_palm_in ?k_d_palm_in; (case a_d_palm_in => k_is); (case l_d_palm_in => k_is); (case c_d_palm_in => k_is); (case k_d_palm_in => k_is))
    (case d_male_in => refine' Dm.mkDef KX G ?a_d_male_in ?l_d_male_in ?c_d_male_in ?k_d_male_in; (case a_d_male_in => k_is); (case l_d_male_in => k_is); (case c_d_male_in => k_is); (case k_d_male_in => k_is))
    (case d_baskets => refine' Dm.mkDef KX G ?a_d_baskets ?l_d_baskets ?c_d_baskets ?k_d_baskets; (case a_d_baskets => k_is); (case l_d_baskets => k_is); (case c_d_baskets => k_is); (case k_d_baskets => k_is))
    (case d_check_plants => refine' Dm.mkDef KX G ?a_d_check_plants ?l_d_check_plants ?c_d_check_plants ?k_d_check_plants; (case a_d_check_plants => k_is); (case l_d_check_plants => k_is); (case c_d_check_plants => k_is); (case k_d_check_plants => k_is))
    (case d_best_plants => refine' Dm.mkDef KX G ?a_d_best_plants ?l_d_best_plants ?c_d_best_plants ?k_d_best_plants; (case a_d_best_plants => k_is); (case l_d_best_plants => k_is); (case c_d_best_plants => k_is); (case k_d_best_plants => k_is))
    (case d_check_enough => refine' Dm.mkDef KX G ?a_d_check_enough ?l_d_check_enough ?c_d_check_enough ?k_d_check_enough; (case a_d_check_enough => k_is); (case l_d_check_enough => k_is); (case c_d_check_enough => k_is); (case k_d_check_enough => k_is))
    (case d_years_of_lot => refine' Dm.mkDef KX G ?a_d_years_of_lot ?l_d_years_of_lot ?c_d_years_of_lot ?k_d_years_of_lot; (case a_d_years_of_lot => k_is); (case l_d_years_of_lot => k_is); (case c_d_years_of_lot => k_is); (case k_d_years_of_lot => k_is))
    (case d_sums_of => refine' Dm.mkDef KX G ?a_d_sums_of ?l_d_sums_of ?c_d_sums_of ?k_d_sums_of; (case a_d_sums_of => k_is); (case l_d_sums_of => k_is); (case c_d_sums_of => k_is); (case k_d_sums_of => k_is))
    (case d_check_shifts_few => refine' Dm.mkDef KX G ?a_d_check_shifts_few ?l_d_check_shifts_few ?c_d_check_shifts_few ?k_d_check_shifts_few; (case a_d_check_shifts_few => k_is); (case l_d_check_shifts_few => k_is); (case c_d_check_shifts_few => k_is); (case k_d_check_shifts_few => k_is))
    (case d_told_evenest => refine' Dm.mkDef KX G ?a_d_told_evenest ?l_d_told_evenest ?c_d_told_evenest ?k_d_told_evenest; (case a_d_told_evenest => k_is); (case l_d_told_evenest => k_is); (case c_d_told_evenest => k_is); (case k_d_told_evenest => k_is))
    (case d_GroveReader_takes => refine' Dm.mkMeth ?a_d_GroveReader_takes ?i_d_GroveReader_takes ?l_d_GroveReader_takes ?c_d_GroveReader_takes ?k_d_GroveReader_takes; (case a_d_GroveReader_takes => k_is); (case i_d_GroveReader_takes => k_is); (case l_d_GroveReader_takes => k_is); (case c_d_GroveReader_takes => k_is); (case k_d_GroveReader_takes => k_is))
    (case d_bearing => refine' Dm.mkDef KX G ?a_d_bearing ?l_d_bearing ?c_d_bearing ?k_d_bearing; (case a_d_bearing => k_is); (case l_d_bearing => k_is); (case c_d_bearing => k_is); (case k_d_bearing => k_is))
    (case d_least_bearing => refine' Dm.mkDef KX G ?a_d_least_bearing ?l_d_least_bearing ?c_d_least_bearing ?k_d_least_bearing; (case a_d_least_bearing => k_is); (case l_d_least_bearing => k_is); (case c_d_least_bearing => k_is); (case k_d_least_bearing => k_is))
    (case d_most_bearing => refine' Dm.mkDef KX G ?a_d_most_bearing ?l_d_most_bearing ?c_d_most_bearing ?k_d_most_bearing; (case a_d_most_bearing => k_is); (case l_d_most_bearing => k_is); (case c_d_most_bearing => k_is); (case k_d_most_bearing => k_is))
    (case d_enough_plants => refine' Dm.mkDef KX G ?a_d_enough_plants ?l_d_enough_plants ?c_d_enough_plants ?k_d_enough_plants; (case a_d_enough_plants => k_is); (case l_d_enough_plants => k_is); (case c_d_enough_plants => k_is); (case k_d_enough_plants => k_is))
    (case d_told_years => refine' Dm.mkDef KX G ?a_d_told_years ?l_d_told_years ?c_d_told_years ?k_d_told_years; (case a_d_told_years => k_is); (case l_d_told_years => k_is); (case c_d_told_years => k_is); (case k_d_told_years => k_is))
    (case d_most_baskets => refine' Dm.mkDef KX G ?a_d_most_baskets ?l_d_most_baskets ?c_d_most_baskets ?k_d_most_baskets; (case a_d_most_baskets => k_is); (case l_d_most_baskets => k_is); (case c_d_most_baskets => k_is); (case k_d_most_baskets => k_is))
    (case d_least_baskets => refine' Dm.mkDef KX G ?a_d_least_baskets ?l_d_least_baskets ?c_d_least_baskets ?k_d_least_baskets; (case a_d_least_baskets => k_is); (case l_d_least_baskets => k_is); (case c_d_least_baskets => k_is); (case k_d_least_baskets => k_is))
    (case d_mean_baskets => refine' Dm.mkDef KX G ?a_d_mean_baskets ?l_d_mean_baskets ?c_d_mean_baskets ?k_d_mean_baskets; (case a_d_mean_baskets => k_is); (case l_d_mean_baskets => k_is); (case c_d_mean_baskets => k_is); (case k_d_mean_baskets => k_is))
    (case d_how_many_with => refine' Dm.mkDef KX G ?a_d_how_many_with ?l_d_how_many_with ?c_d_how_many_with ?k_d_how_many_with; (case a_d_how_many_with => k_is); (case l_d_how_many_with => k_is); (case c_d_how_many_with => k_is); (case k_d_how_many_with => k_is))
    (case d_evenest => refine' Dm.mkDef KX G ?a_d_evenest ?l_d_evenest ?c_d_evenest ?k_d_evenest; (case a_d_evenest => k_is); (case l_d_evenest => k_is); (case c_d_evenest => k_is); (case k_d_evenest => k_is))
    (case d_Grove___init__ => refine' Dm.mkMeth ?a_d_Grove___init__ ?i_d_Grove___init__ ?l_d_Grove___init__ ?c_d_Grove___init__ ?k_d_Grove___init__; (case a_d_Grove___init__ => k_is); (case i_d_Grove___init__ => k_is); (case l_d_Grove___init__ => k_is); (case c_d_Grove___init__ => k_is); (case k_d_Grove___init__ => k_is))
    (case d_all_bear => refine' Dm.mkDef KX G ?a_d_all_bear ?l_d_all_bear ?c_d_all_bear ?k_d_all_bear; (case a_d_all_bear => k_is); (case l_d_all_bear => k_is); (case c_d_all_bear => k_is); (case k_d_all_bear => k_is))
    (case d_grove_of => refine' Dm.mkDef KX G ?a_d_grove_of ?l_d_grove_of ?c_d_grove_of ?k_d_grove_of; (case a_d_grove_of => k_is); (case l_d_grove_of => k_is); (case c_d_grove_of => k_is); (case k_d_grove_of => k_is))
    (case d_shifted_by => refine' Dm.mkDef KX G ?a_d_shifted_by ?l_d_shifted_by ?c_d_shifted_by ?k_d_shifted_by; (case a_d_shifted_by => k_is); (case l_d_shifted_by => k_is); (case c_d_shifted_by => k_is); (case k_d_shifted_by => k_is))
    (case d_shifted => refine' Dm.mkDef KX G ?a_d_shifted ?l_d_shifted ?c_d_shifted ?k_d_shifted; (case a_d_shifted => k_is); (case l_d_shifted => k_is); (case c_d_shifted => k_is); (case k_d_shifted => k_is))
    (case d__law_right => refine' Dm.mkDef KX G ?a_d__law_right ?l_d__law_right ?c_d__law_right ?k_d__law_right; (case a_d__law_right => k_is); (case l_d__law_right => k_is); (case c_d__law_right => k_is); (case k_d__law_right => k_is))
    (case d_law => refine' Dm.mkDef KX G ?a_d_law ?l_d_law ?c_d_law ?k_d_law; (case a_d_law => k_is); (case l_d_law => k_is); (case c_d_law => k_is); (case k_d_law => k_is))
#print axioms PySem.Challenge.cw_palmsinturn_k92_whole_years_and_plants_holds

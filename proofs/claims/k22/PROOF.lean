import PyProof.Rows.All
import Wide.All
import OpenK.AllK
import Wide.FinOn
import HandS.ForMost
import HandS.Wide
import HandS.TupAny
import HandS.TupMul
import HandS.IsInst
import HandS.Walk
import HandS.Codes
import HandS.Style
import HandS.Zip
import KE.GoesEnum
import HandS.SortInts
import HandS.Deep
import PyProof.ListMulRoad
import PyProof.FactsAll.tuple_2
import HandS.Conv
import HandS.Star
import HandS.SetFor
import HandS.Strs
import KE.KDictZip
import HandS.ListItems
import KE.SortData
import HandS.Remove
import HandS.GenList
import HandS.Property
import PySem.Challenge.RW_autosaves_k22_examples_by_hand
set_option Elab.async false
set_option linter.all false
set_option maxRecDepth 100000
set_option maxHeartbeats 4000000
namespace DL
open PySem PySem.Spec PyProof.Rows L2
abbrev D := PyData
/-! ## data at a value -/
mutual
def Rep (O : Addr → Prop) (H : Hp) : D → V → Prop
  | .none, v => v = .non
  | .bool b, v => v = .bl b
  | .int i, v => v = .int i
  | .str x, v => v = .str x
  | .list ds, v => ∃ a vs, v = .ref a ∧ ¬ O a ∧ H a = some (.lst vs) ∧ RepL O H ds vs
  | .tuple ds, v => ∃ a vs, v = .ref a ∧ H a = some (.tup vs) ∧ RepL O H ds vs
  | .dict _, _ => False
def RepL (O : Addr → Prop) (H : Hp) : List D → List V → Prop
  | [], vs => vs = []
  | d :: ds, vs => ∃ v ws, vs = v :: ws ∧ Rep O H d v ∧ RepL O H ds ws
end
structure Mv (O : Addr → Prop) (H : Hp) (O' : Addr → Prop) (H' : Hp) : Prop where
  keep : ∀ b o, H b = some o → ((∀ vs, o ≠ .lst vs) ∨ ¬ O b) → H' b = some o
  out : ∀ b, O' b → O b ∨ H b = none
mutual
theorem Rep.mv {O O' : Addr → Prop} {H H' : Hp} (m : Mv O H O' H') : ∀ (d : D) (v : V), Rep O H d v → Rep O' H' d v
  | .none, v, h => by simpa only [Rep] using h
  | .bool b, v, h => by simpa only [Rep] using h
  | .int b, v, h => by simpa only [Rep] using h
  | .str b, v, h => by simpa only [Rep] using h
  | .list ds, v, h => by
    simp only [Rep] at h ⊢
    obtain ⟨a, vs, rfl, no, ha, r⟩ := h
    refine ⟨a, vs, rfl, fun q => ?_, m.keep a _ ha (.inr no), RepL.mv m ds vs r⟩
    rcases m.out a q with z | z
    · exact no z
    · rw [ha] at z; cases z
  | .tuple ds, v, h => by
    simp only [Rep] at h ⊢
    obtain ⟨a, vs, rfl, ha, r⟩ := h
    exact ⟨a, vs, rfl, m.keep a _ ha (.inl fun vs z => by cases z), RepL.mv m ds vs r⟩
  | .dict _, v, h => by simp only [Rep] at h
theorem RepL.mv {O O' : Addr → Prop} {H H' : Hp} (m : Mv O H O' H') : ∀ (ds : List D) (vs : List V), RepL O H ds vs → RepL O' H' ds vs
  | [], vs, h => by simpa only [RepL] using h
  | d :: ds, vs, h => by
    simp only [RepL] at h ⊢
    obtain ⟨v, ws, rfl, r1, r2⟩ := h
    exact ⟨v, ws, rfl, Rep.mv m d v r1, RepL.mv m ds ws r2⟩
end
theorem Mv.same {O : Addr → Prop} {H H' : Hp} (s : Same H H') : Mv O H O H' := ⟨fun b o e _ => s b o e, fun _ h => .inl h⟩
theorem Mv.less {O O' : Addr → Prop} {H : Hp} (s : ∀ b, O' b → O b) : Mv O H O' H := ⟨fun _ _ e _ => e, fun b h => .inl (s b h)⟩
theorem Mv.fresh {O : Addr → Prop} {H : Hp} {p : Addr} (hp : H p = none) : Mv O H (fun b => O b ∨ b = p) H := ⟨fun _ _ e _ => e, fun b h => by
  rcases h with h | rfl
  · exact .inl h
  · exact .inr hp⟩
theorem Rep.same {O : Addr → Prop} {H H' : Hp} {d : D} {v : V} (s : Same H H') (h : Rep O H d v) : Rep O H' d v := Rep.mv (.same s) d v h
theorem RepL.same {O : Addr → Prop} {H H' : Hp} {ds : List D} {vs : List V} (s : Same H H') (h : RepL O H ds vs) : RepL O H' ds vs := RepL.mv (.same s) ds vs h
theorem Rep.less {O O' : Addr → Prop} {H : Hp} {d : D} {v : V} (s : ∀ b, O' b → O b) (h : Rep O H d v) : Rep O' H d v := Rep.mv (.less s) d v h
theorem RepL.less {O O' : Addr → Prop} {H : Hp} {ds : List D} {vs : List V} (s : ∀ b, O' b → O b) (h : RepL O H ds vs) : RepL O' H ds vs := RepL.mv (.less s) ds vs h
theorem RepL.length {O : Addr → Prop} {H : Hp} : ∀ {ds : List D} {vs : List V}, RepL O H ds vs → ds.length = vs.length
  | [], vs, h => by simp only [RepL] at h; subst h; rfl
  | d :: ds, vs, h => by
    simp only [RepL] at h
    obtain ⟨v, ws, rfl, _, r⟩ := h
    simp only [List.length_cons, RepL.length r]
theorem RepL.get {O : Addr → Prop} {H : Hp} : ∀ {ds : List D} {vs : List V} {i : Nat} {d : D}, RepL O H ds vs → ds[i]? = some d → ∃ v, vs[i]? = some v ∧ Rep O H d v
  | [], vs, i, d, h, e => by simp at e
  | d :: ds, vs, 0, d', h, e => by
    simp only [RepL] at h
    obtain ⟨v, ws, rfl, r1, r⟩ := h
    simp at e; subst e
    exact ⟨v, rfl, r1⟩
  | d :: ds, vs, i + 1, d', h, e => by
    simp only [RepL] at h
    obtain ⟨v, ws, rfl, r1, r⟩ := h
    obtain ⟨u, h1, h2⟩ := RepL.get (i := i) r (by simpa using e)
    exact ⟨u, by simpa using h1, h2⟩
theorem RepL.getV {O : Addr → Prop} {H : Hp} {ds : List D} {vs : List V} {i : Nat} {v : V} (h : RepL O H ds vs) (e : vs[i]? = some v) : ∃ d, ds[i]? = some d ∧ Rep O H d v := by
  have hl := h.length
  have hi : i < vs.length := (List.getElem?_eq_some_iff.mp e).1
  obtain ⟨u, e1, r⟩ := h.get (i := i) (d := ds[i]) (by simp [hl, hi])
  rw [e] at e1; cases e1
  exact ⟨_, by simp [hl, hi], r⟩
theorem RepL.append {O : Addr → Prop} {H : Hp} : ∀ {ds es : List D} {vs ws : List V}, RepL O H ds vs → RepL O H es ws → RepL O H (ds ++ es) (vs ++ ws)
  | [], es, vs, ws, h, h' => by simp only [RepL] at h; subst h; exact h'
  | d :: ds, es, vs, ws, h, h' => by
    simp only [RepL] at h
    obtain ⟨v, us, rfl, r1, r⟩ := h
    simp only [List.cons_append, RepL]
    exact ⟨v, us ++ ws, rfl, r1, RepL.append r h'⟩
theorem RepL.one {O : Addr → Prop} {H : Hp} {d : D} {v : V} (h : Rep O H d v) : RepL O H [d] [v] := by
  simp only [RepL]
  exact ⟨v, [], rfl, h, rfl⟩
theorem RepL.nil {O : Addr → Prop} {H : Hp} : RepL O H [] [] := by simp only [RepL]
theorem RepL.cons {O : Addr → Prop} {H : Hp} {d : D} {v : V} {ds : List D} {vs : List V} (h : Rep O H d v) (h' : RepL O H ds vs) : RepL O H (d :: ds) (v :: vs) := by
  simp only [RepL]
  exact ⟨v, vs, rfl, h, h'⟩
theorem RepL.take {O : Addr → Prop} {H : Hp} : ∀ {ds : List D} {vs : List V} (n : Nat), RepL O H ds vs → RepL O H (ds.take n) (vs.take n)
  | _, _, 0, _ => by simpa using RepL.nil
  | [], vs, n + 1, h => by simp only [RepL] at h; subst h; simpa using RepL.nil
  | d :: ds, vs, n + 1, h => by
    simp only [RepL] at h
    obtain ⟨v, us, rfl, r1, r⟩ := h
    exact RepL.cons r1 (RepL.take n r)
theorem RepL.drop {O : Addr → Prop} {H : Hp} : ∀ {ds : List D} {vs : List V} (n : Nat), RepL O H ds vs → RepL O H (ds.drop n) (vs.drop n)
  | _, _, 0, h => by simpa using h
  | [], vs, n + 1, h => by simp only [RepL] at h; subst h; simpa using RepL.nil
  | d :: ds, vs, n + 1, h => by
    simp only [RepL] at h
    obtain ⟨v, us, rfl, r1, r⟩ := h
    exact RepL.drop n r
theorem RepL.set {O : Addr → Prop} {H : Hp} {d : D} {v : V} (hr : Rep O H d v) : ∀ {ds : List D} {vs : List V} (n : Nat), RepL O H ds vs → RepL O H (ds.set n d) (vs.set n v)
  | [], vs, n, h => by simp only [RepL] at h; subst h; simpa using RepL.nil
  | e :: ds, vs, 0, h => by
    simp only [RepL] at h
    obtain ⟨w, us, rfl, r1, r⟩ := h
    exact RepL.cons hr r
  | e :: ds, vs, n + 1, h => by
    simp only [RepL] at h
    obtain ⟨w, us, rfl, r1, r⟩ := h
    exact RepL.cons r1 (RepL.set hr n r)
theorem RepL.dropLast {O : Addr → Prop} {H : Hp} {ds : List D} {vs : List V} (h : RepL O H ds vs) : RepL O H ds.dropLast vs.dropLast := by
  rw [List.dropLast_eq_take, List.dropLast_eq_take, h.length]
  exact h.take _
theorem RepL.reverse {O : Addr → Prop} {H : Hp} : ∀ {ds : List D} {vs : List V}, RepL O H ds vs → RepL O H ds.reverse vs.reverse
  | [], vs, h => by simp only [RepL] at h; subst h; exact RepL.nil
  | d :: ds, vs, h => by
    simp only [RepL] at h
    obtain ⟨w, us, rfl, r1, r⟩ := h
    simp only [List.reverse_cons]
    exact RepL.append (RepL.reverse r) (RepL.one r1)
mutual
theorem Rep.dp {K : PySem.W.Frag} {O : Addr → Prop} {H : Hp} : ∀ {d : D} {v : V}, Rep O H d v → Dp K H v d
  | .none, v, h => by simp only [Rep] at h; subst h; exact .non
  | .bool b, v, h => by simp only [Rep] at h; subst h; exact .bl b
  | .int b, v, h => by simp only [Rep] at h; subst h; exact .int b
  | .str b, v, h => by simp only [Rep] at h; subst h; exact .str b
  | .list ds, v, h => by
    simp only [Rep] at h
    obtain ⟨a, vs, rfl, no, ha, r⟩ := h
    exact .lst (.of ha) (RepL.dp r)
  | .tuple ds, v, h => by
    simp only [Rep] at h
    obtain ⟨a, vs, rfl, ha, r⟩ := h
    exact .tup (.of ha) (RepL.dp r)
  | .dict _, v, h => by simp only [Rep] at h
theorem RepL.dp {K : PySem.W.Frag} {O : Addr → Prop} {H : Hp} : ∀ {ds : List D} {vs : List V}, RepL O H ds vs → DpAll K H vs ds
  | [], vs, h => by simp only [RepL] at h; subst h; exact .nil
  | d :: ds, vs, h => by
    simp only [RepL] at h
    obtain ⟨v, us, rfl, r1, r⟩ := h
    exact .cons (Rep.dp r1) (RepL.dp r)
end
/-! ### data without lists -/
mutual
@[simp] def imm : D → Bool
  | .list _ => false
  | .tuple ds => immL ds
  | .dict _ => false
  | .none => true
  | .bool _ => true
  | .int _ => true
  | .str _ => true
@[simp] def immL : List D → Bool
  | [] => true
  | d :: ds => imm d && immL ds
end
mutual
theorem Rep.imm {O O' : Addr → Prop} {H : Hp} : ∀ {d : D} {v : V}, imm d = true → Rep O H d v → Rep O' H d v
  | .none, v, _, h => by simpa only [Rep] using h
  | .bool b, v, _, h => by simpa only [Rep] using h
  | .int b, v, _, h => by simpa only [Rep] using h
  | .str b, v, _, h => by simpa only [Rep] using h
  | .list ds, v, q, h => by simp [DL.imm] at q
  | .tuple ds, v, q, h => by
    simp only [Rep] at h ⊢
    obtain ⟨a, vs, rfl, ha, r⟩ := h
    exact ⟨a, vs, rfl, ha, RepL.imm (by simpa [DL.imm] using q) r⟩
  | .dict _, v, q, h => by simp [DL.imm] at q
theorem RepL.imm {O O' : Addr → Prop} {H : Hp} : ∀ {ds : List D} {vs : List V}, immL ds = true → RepL O H ds vs → RepL O' H ds vs
  | [], vs, _, h => by simpa only [RepL] using h
  | d :: ds, vs, q, h => by
    simp only [RepL] at h ⊢
    obtain ⟨v, us, rfl, r1, r⟩ := h
    have q' : DL.imm d = true ∧ immL ds = true := by simpa [immL] using q
    exact ⟨v, us, rfl, Rep.imm q'.1 r1, RepL.imm q'.2 r⟩
end
end DL

namespace DL
open PySem PySem.Spec
open PyProof.Rows hiding St
open L2
/-! ## environments of data -/
inductive Sl where
  | nil | dat (d : D) | own (ds : List D) | bag (ds : List D) | raw (v : V)
abbrev Rho := List Sl
structure Base where
  H0 : Hp
  O0 : Addr → Prop
  R : Addr → Prop
def SlOk (B : Base) (O : Addr → Prop) (H : Hp) : Sl → Option (Option V) → Prop
  | .nil, _ => True
  | .dat d, o => ∃ v, o = some (some v) ∧ Rep O H d v
  | .own ds, o => ∃ a vs, o = some (some (.ref a)) ∧ O a ∧ ¬ B.O0 a ∧ B.H0 a = none ∧ H a = some (.lst vs) ∧ RepL O H ds vs
  | .bag ds, o => ∃ a vs, o = some (some (.ref a)) ∧ B.R a ∧ O a ∧ H a = some (.lst vs) ∧ RepL O H ds vs
  | .raw v, o => o = some (some v)
def isOwn : Sl → Bool
  | .own _ => true
  | .bag _ => true
  | _ => false
def Wof (σ : St) (ρ : Rho) (b : Addr) : Prop := ∃ (i : Nat) (s : Sl), ρ[i]? = some s ∧ isOwn s = true ∧ σ[i]? = some (some (.ref b))
structure Good (B : Base) (O : Addr → Prop) (σ : St) (H : Hp) (ρ : Rho) : Prop where
  len : σ.length = ρ.length
  frame : ∀ b o, B.H0 b = some o → ¬ B.R b → H b = some o
  o0 : ∀ b, B.O0 b → B.H0 b ≠ none
  r0 : ∀ b, B.R b → B.O0 b
  osub : ∀ b, B.O0 b → O b
  otrk : ∀ b, O b → H b ≠ none
  h0 : ∀ b, B.H0 b ≠ none → H b ≠ none
  slots : ∀ (i : Nat) s, ρ[i]? = some s → SlOk B O H s σ[i]?
  sep : ∀ (i j : Nat) s t b, ρ[i]? = some s → ρ[j]? = some t → isOwn s = true → isOwn t = true → σ[i]? = some (some (.ref b)) → σ[j]? = some (some (.ref b)) → i = j
def Otr (O : Addr → Prop) (H : Hp) : Prop := ∀ b, O b → H b ≠ none
theorem some_ne {H : Hp} {b : Addr} {o : HO} (h : H b = some o) : H b ≠ none := by rw [h]; exact fun z => nomatch z
theorem _root_.L2.Same.ne {H H' : Hp} (s : Same H H') {b : Addr} (h : H b ≠ none) : H' b ≠ none := by
  cases e : H b with
  | none => exact absurd e h
  | some o => exact some_ne (s b o e)
theorem Otr.same {O : Addr → Prop} {H H' : Hp} (t : Otr O H) (s : Same H H') : Otr O H' := fun b h => s.ne (t b h)
section
variable {B : Base} {O : Addr → Prop} {σ : St} {H H' : Hp} {ρ : Rho}
theorem SlOk.mv {O' : Addr → Prop} {s : Sl} {o : Option (Option V)} (m : Mv O H O' H') (hs : isOwn s = false) (h : SlOk B O H s o) : SlOk B O' H' s o := by
  cases s with
  | nil => trivial
  | dat d => obtain ⟨v, e, r⟩ := h; exact ⟨v, e, Rep.mv m d v r⟩
  | own ds => cases hs
  | bag ds => cases hs
  | raw v => exact h
theorem SlOk.same {s : Sl} {o : Option (Option V)} (m : Same H H') (h : SlOk B O H s o) : SlOk B O H' s o := by
  cases s with
  | nil => trivial
  | dat d => obtain ⟨v, e, r⟩ := h; exact ⟨v, e, r.same m⟩
  | own ds => obtain ⟨a, vs, e, h1, h2, h3, h4, r⟩ := h; exact ⟨a, vs, e, h1, h2, h3, m a _ h4, r.same m⟩
  | bag ds => obtain ⟨a, vs, e, h1, h2, h4, r⟩ := h; exact ⟨a, vs, e, h1, h2, m a _ h4, r.same m⟩
  | raw v => exact h
theorem Good.same (g : Good B O σ H ρ) (s : Same H H') : Good B O σ H' ρ :=
  ⟨g.len, fun b o e n => s b o (g.frame b o e n), g.o0, g.r0, g.osub, fun b h => s.ne (g.otrk b h), fun b h => s.ne (g.h0 b h), fun i t e => (g.slots i t e).same s, g.sep⟩
theorem Good.fresh (g : Good B O σ H ρ) {p : Addr} (hp : H p = none) : ¬ O p ∧ ¬ B.O0 p ∧ B.H0 p = none :=
  ⟨fun z => g.otrk p z hp, fun z => g.otrk p (g.osub p z) hp, by
    cases e : B.H0 p with
    | none => rfl
    | some o => exact absurd hp (g.h0 p (some_ne e))⟩
theorem Good.wof (g : Good B O σ H ρ) {b : Addr} (h : Wof σ ρ b) : O b ∧ ∃ vs, H b = some (.lst vs) := by
  obtain ⟨i, s, e1, e2, e3⟩ := h
  have k := g.slots i s e1
  cases s with
  | nil => cases e2
  | dat d => cases e2
  | own ds =>
    obtain ⟨a, vs, e, h1, _, _, h4, _⟩ := k
    rw [e3] at e; cases e
    exact ⟨h1, vs, h4⟩
  | bag ds =>
    obtain ⟨a, vs, e, _, h1, h4, _⟩ := k
    rw [e3] at e; cases e
    exact ⟨h1, vs, h4⟩
  | raw v => cases e2
end
/-! ## what an expression may change -/
structure Keep (W : Addr → Prop) (H H' : Hp) : Prop where
  keep : ∀ b o, H b = some o → ¬ W b → H' b = some o
  lst : ∀ b vs, H b = some (.lst vs) → ∃ vs', H' b = some (.lst vs')
theorem Keep.of {W : Addr → Prop} {H H' : Hp} (s : Same H H') : Keep W H H' := ⟨fun b o e _ => s b o e, fun b vs e => ⟨vs, s b _ e⟩⟩
theorem Keep.trans {W W' : Addr → Prop} {H H1 H2 : Hp} (a : Keep W H H1) (b : Keep W' H1 H2) (w : ∀ b, W' b → W b ∨ H b = none) : Keep W H H2 :=
  ⟨fun c o e n => b.keep c o (a.keep c o e n) (fun z => by
    rcases w c z with z | z
    · exact n z
    · rw [e] at z
      cases z), fun c vs e => by
    obtain ⟨vs1, e1⟩ := a.lst c vs e
    exact b.lst c vs1 e1⟩
theorem Keep.ne {W : Addr → Prop} {H H' : Hp} (k : Keep W H H') (hw : ∀ b, W b → ∃ vs, H b = some (.lst vs)) {b : Addr} (h : H b ≠ none) : H' b ≠ none := by
  cases e : H b with
  | none => exact absurd e h
  | some o =>
    by_cases q : W b
    · obtain ⟨vs, e1⟩ := hw b q
      obtain ⟨vs', e2⟩ := k.lst b vs e1
      exact some_ne e2
    · exact some_ne (k.keep b o e q)
section
variable {B : Base} {O O' : Addr → Prop} {σ : St} {H H' : Hp} {ρ ρ' : Rho}
theorem Good.mv (g : Good B O σ H ρ) (k : Keep (Wof σ ρ) H H') (ho : ∀ b, O' b → O b ∨ H b = none) : Mv O H O' H' :=
  ⟨fun b o e q => k.keep b o e (fun z => by
    obtain ⟨h1, vs, h2⟩ := g.wof z
    rcases q with q | q
    · rw [e] at h2; cases h2; exact q vs rfl
    · exact q h1), ho⟩
theorem Good.rep (g : Good B O σ H ρ) (k : Keep (Wof σ ρ) H H') {d : D} {v : V} (h : Rep O H d v) : Rep O H' d v := Rep.mv (g.mv k fun _ h => .inl h) d v h
theorem Good.repL (g : Good B O σ H ρ) (k : Keep (Wof σ ρ) H H') {ds : List D} {vs : List V} (h : RepL O H ds vs) : RepL O H' ds vs := RepL.mv (g.mv k fun _ h => .inl h) ds vs h
end
inductive Md where | str | bas
def Md.O (m : Md) (B : Base) (O : Addr → Prop) : Addr → Prop := match m with | .str => O | .bas => B.O0
theorem Good.mO {B : Base} {O : Addr → Prop} {σ : St} {H : Hp} {ρ : Rho} (g : Good B O σ H ρ) (m : Md) : ∀ b, m.O B O b → O b := by
  cases m with
  | str => exact fun _ h => h
  | bas => exact g.osub
theorem Good.otr {B : Base} {O : Addr → Prop} {σ : St} {H : Hp} {ρ : Rho} (g : Good B O σ H ρ) (m : Md) : Otr (m.O B O) H := fun b h => g.otrk b (g.mO m b h)
/-! ## judgements -/
def tP (B : Base) (m : Md) (g : Rho → Option D) : TE := fun σ H Q => ∃ O ρ d, Good B O σ H ρ ∧ g ρ = some d ∧ ∀ v H', Same H H' → Rep (m.O B O) H' d v → Q v H'
def tPA (B : Base) (m : Md) (g : Rho → Option (List D)) : TA := fun σ H Q => ∃ O ρ ds, Good B O σ H ρ ∧ g ρ = some ds ∧ ∀ vs H', Same H H' → RepL (m.O B O) H' ds vs → Q vs H'
def tPT (B : Base) (g : Rho → Option Bool) : TT := fun σ H Q => ∃ O ρ c, Good B O σ H ρ ∧ g ρ = some c ∧ ∀ H', Same H H' → Q c H'
structure Ext (B : Base) (O : Addr → Prop) (σ : St) (H : Hp) (ρ : Rho) (H' : Hp) (ρ' : Rho) : Prop where
  keep : Keep (Wof σ ρ) H H'
  w : ∀ b, Wof σ ρ' b → Wof σ ρ b
  good : Good B O σ H' ρ'
def tE (B : Base) (f : Rho → Option (D × Rho)) : TE := fun σ H Q => ∃ O ρ d ρ', Good B O σ H ρ ∧ f ρ = some (d, ρ') ∧ ∀ v H', Ext B O σ H ρ H' ρ' → Rep O H' d v → Q v H'
def tEA (B : Base) (f : Rho → Option (List D × Rho)) : TA := fun σ H Q => ∃ O ρ ds ρ', Good B O σ H ρ ∧ f ρ = some (ds, ρ') ∧ ∀ vs H', Ext B O σ H ρ H' ρ' → RepL O H' ds vs → Q vs H'
def tET (B : Base) (f : Rho → Option (Bool × Rho)) : TT := fun σ H Q => ∃ O ρ c ρ', Good B O σ H ρ ∧ f ρ = some (c, ρ') ∧ ∀ H', Ext B O σ H ρ H' ρ' → Q c H'
structure DP (X : Cx) (B : Base) (m : Md) (e : Expr) (g : Rho → Option D) : Prop where
  pe : PE X e (tP B m g)
structure DPA (X : Cx) (B : Base) (m : Md) (es : List Expr) (g : Rho → Option (List D)) : Prop where
  pa : PA X es (tPA B m g)
structure DPT (X : Cx) (B : Base) (e : Expr) (g : Rho → Option Bool) : Prop where
  pt : PT X e (tPT B g)
structure DE (X : Cx) (B : Base) (e : Expr) (f : Rho → Option (D × Rho)) : Prop where
  pe : PE X e (tE B f)
structure DEA (X : Cx) (B : Base) (es : List Expr) (f : Rho → Option (List D × Rho)) : Prop where
  pa : PA X es (tEA B f)
structure DET (X : Cx) (B : Base) (e : Expr) (f : Rho → Option (Bool × Rho)) : Prop where
  pt : PT X e (tET B f)
theorem Ext.of {B : Base} {O : Addr → Prop} {σ : St} {H H' : Hp} {ρ : Rho} (g : Good B O σ H ρ) (s : Same H H') : Ext B O σ H ρ H' ρ := ⟨.of s, fun _ h => h, g.same s⟩
theorem Ext.trans {B : Base} {O : Addr → Prop} {σ : St} {H H1 H2 : Hp} {ρ ρ1 ρ2 : Rho} (a : Ext B O σ H ρ H1 ρ1) (b : Ext B O σ H1 ρ1 H2 ρ2) : Ext B O σ H ρ H2 ρ2 :=
  ⟨a.keep.trans b.keep fun c h => .inl (a.w c h), fun c h => a.w c (b.w c h), b.good⟩
theorem Ext.samr {B : Base} {O : Addr → Prop} {σ : St} {H H1 H2 : Hp} {ρ ρ1 : Rho} (a : Ext B O σ H ρ H1 ρ1) (s : Same H1 H2) : Ext B O σ H ρ H2 ρ1 := a.trans (.of a.good s)
section
variable {X : Cx}
theorem _root_.L2.PE.imp {e : Expr} {t t' : TE} (h : PE X e t) (i : ∀ σ H Q, t' σ H Q → t σ H Q) : PE X e t' := ⟨fun pins s σ H Q I q => h.run pins s σ H Q I (i σ H Q q)⟩
theorem _root_.L2.PT.imp {e : Expr} {t t' : TT} (h : PT X e t) (i : ∀ σ H Q, t' σ H Q → t σ H Q) : PT X e t' := ⟨fun pins s σ H Q I q => h.run pins s σ H Q I (i σ H Q q)⟩
theorem _root_.L2.PW.imp {e : Expr} {t t' : TT} (h : PW X e t) (i : ∀ σ H Q, t' σ H Q → t σ H Q) : PW X e t' := ⟨fun wh pins s σ H Q I q => h.run wh pins s σ H Q I (i σ H Q q)⟩
theorem _root_.L2.PA.imp {e : List Expr} {t t' : TA} (h : PA X e t) (i : ∀ σ H Q, t' σ H Q → t σ H Q) : PA X e t' := ⟨fun pos pins s σ H Q I q => h.run pos pins s σ H Q I (i σ H Q q)⟩
theorem _root_.L2.PS.imp {e : Stmt} {t t' : TS} (h : PS X e t) (i : ∀ Dn σ H, t' Dn σ H → t Dn σ H) : PS X e t' := ⟨fun pins s σ H Q I q => h.run pins s σ H Q I (i Q σ H q)⟩
theorem _root_.L2.PSs.imp {e : List Stmt} {t t' : TS} (h : PSs X e t) (i : ∀ Dn σ H, t' Dn σ H → t Dn σ H) : PSs X e t' := ⟨fun pins s σ H Q I q => h.run pins s σ H Q I (i Q σ H q)⟩
end
/-! ## data functions -/
@[simp] def asBool : D → Option Bool
  | .bool b => some b
  | _ => none
@[simp] def asInt : D → Option Int
  | .int b => some b
  | _ => none
@[simp] def kD (d : D) : Rho → Option D := fun _ => some d
@[simp] def varD (m : Md) (i : Nat) : Rho → Option D := fun ρ => match ρ[i]? with
  | some (.dat d) => some d
  | some (.own ds) => (match m with | .bas => some (.list ds) | .str => none)
  | _ => none
@[simp] def b1D (g : Rho → Option D) (f : D → Option D) : Rho → Option D := fun ρ => (g ρ).bind f
@[simp] def b2D (ga gb : Rho → Option D) (f : D → D → Option D) : Rho → Option D := fun ρ => (ga ρ).bind fun d => (gb ρ).bind fun e => f d e
@[simp] def immD (d : D) : Option D := if imm d = true then some d else none
@[simp] def toE (g : Rho → Option D) : Rho → Option (D × Rho) := fun ρ => (g ρ).bind fun d => some (d, ρ)
@[simp] def b2E (fa fb : Rho → Option (D × Rho)) (f : D → D → Option D) : Rho → Option (D × Rho) := fun ρ => (fa ρ).bind fun p => (fb p.2).bind fun q => (f p.1 q.1).bind fun z => some (z, q.2)
@[simp] def b1E (fa : Rho → Option (D × Rho)) (f : D → Option D) : Rho → Option (D × Rho) := fun ρ => (fa ρ).bind fun p => (f p.1).bind fun z => some (z, p.2)
/-- an operation by values serves an operation on data -/
def Op2 (r : R2) (f : D → D → Option D) : Prop := ∀ O H d e z x y Q, Otr O H → f d e = some z → Rep O H d x → Rep O H e y → (∀ v H', Same H H' → Rep O H' z v → Q v H') → r x y H Q
def Op1 (r : V → Hp → VK → Prop) (f : D → Option D) : Prop := ∀ O H d z x Q, Otr O H → f d = some z → Rep O H d x → (∀ v H', Same H H' → Rep O H' z v → Q v H') → r x H Q
def OpN (r : List V → Hp → VK → Prop) (f : List D → Option D) : Prop := ∀ O H ds z xs Q, Otr O H → f ds = some z → RepL O H ds xs → (∀ v H', Same H H' → Rep O H' z v → Q v H') → r xs H Q
theorem bind_some {α β : Type} {a : Option α} {f : α → Option β} {b : β} (h : a.bind f = some b) : ∃ x, a = some x ∧ f x = some b := by
  cases a with
  | none => cases h
  | some x => exact ⟨x, rfl, h⟩
section
variable {X : Cx} {B : Base} {m : Md} {a b e : Expr} {ga gb g : Rho → Option D} {fa fb f : Rho → Option (D × Rho)} {pos : Pos}
/-! ## plain expressions -/
theorem dp_int {i : Int} {j} : DP X B m (.Constant (.int i) j pos) (kD (.int i)) := ⟨pe_int.imp fun σ H Q ⟨O, ρ, d, g, e, q⟩ => by
  cases e
  exact q _ _ (Same.refl _) (by simp only [Rep])⟩
theorem dp_bool {b : Bool} {j} : DP X B m (.Constant (.bool b) j pos) (kD (.bool b)) := ⟨pe_bl.imp fun σ H Q ⟨O, ρ, d, g, e, q⟩ => by
  cases e
  exact q _ _ (Same.refl _) (by simp only [Rep])⟩
theorem dp_none {j} : DP X B m (.Constant .none j pos) (kD .none) := ⟨pe_non.imp fun σ H Q ⟨O, ρ, d, g, e, q⟩ => by
  cases e
  exact q _ _ (Same.refl _) (by simp only [Rep])⟩
theorem dp_str {x : Str} {j} : DP X B m (.Constant (.str x) j pos) (kD (.str x)) := ⟨pe_str.imp fun σ H Q ⟨O, ρ, d, g, e, q⟩ => by
  cases e
  exact q _ _ (Same.refl _) (by simp only [Rep])⟩
theorem dp_var (i : Nat) {x : Str} (hN : X.N[i]? = some x := by rfl) (hv : Vis X.env.scope x := by first | exact Or.inl rfl | exact Or.inr (Or.inl rfl) | exact Or.inr (Or.inr rfl)) (hd : (x == ("__debug__" : Str)) = false := by decide)
    (hcd : (x == ("__classdict__" : Str)) = false := by decide) : DP X B m (.Name x pos) (varD m i) := ⟨(pv i hN hv hd hcd).imp fun σ H Q ⟨O, ρ, d, g, e, q⟩ => by
  unfold varD at e
  split at e
  · next d' e1 =>
    cases e
    obtain ⟨v, e2, r⟩ := g.slots _ _ e1
    exact ⟨v, e2, q _ _ (Same.refl _) (r.less (g.mO m))⟩
  · next ds e1 =>
    cases m with
    | str => cases e
    | bas =>
      cases e
      obtain ⟨p, vs, e2, h1, h2, h3, h4, r⟩ := g.slots _ _ e1
      refine ⟨_, e2, q _ _ (Same.refl _) ?_⟩
      simp only [Rep]
      exact ⟨p, vs, rfl, h2, h4, r.less g.osub⟩
  · cases e⟩
theorem dp_glob {x : Str} {i : Int} {u : Value} (hm : X.mg x = some u) (r : RelV (.int i) u) (hg : Gl X x := by rfl) (hd : (x == ("__debug__" : Str)) = false := by decide) : DP X B m (.Name x pos) (kD (.int i)) :=
  ⟨(pe_glob hg hm r hd).imp fun σ H Q ⟨O, ρ, d, g, e, q⟩ => by
    cases e
    exact q _ _ (Same.refl _) (by simp only [Rep])⟩
theorem dp_imm (h : DP X B .bas e g) : DP X B .str e (b1D g immD) := ⟨h.pe.imp fun σ H Q ⟨O, ρ, d, gd, e, q⟩ => by
  obtain ⟨d', e1, e2⟩ := bind_some e
  unfold immD at e2
  split at e2
  · next hi =>
    cases e2
    exact ⟨O, ρ, _, gd, e1, fun v H' s r => q v H' s (r.imm hi)⟩
  · cases e2⟩
theorem dp_bin2 {r : R2} {f : D → D → Option D} {t : TE → TE → TE} (ht : ∀ {ta tb : TE}, PE X a ta → PE X b tb → PE X e (fun σ H Q => ta σ H fun x H1 => tb σ H1 fun y H2 => r x y H2 Q)) (hf : Op2 r f) (ha : DP X B m a ga) (hb : DP X B m b gb) :
    DP X B m e (b2D ga gb f) := ⟨(ht ha.pe hb.pe).imp fun σ H Q ⟨O, ρ, d, gd, e, q⟩ => by
  obtain ⟨d1, e1, e'⟩ := bind_some e
  obtain ⟨d2, e2, e3⟩ := bind_some e'
  refine ⟨O, ρ, d1, gd, e1, fun v H1 s1 r1 => ⟨O, ρ, d2, gd.same s1, e2, fun w H2 s2 r2 => ?_⟩⟩
  exact hf _ H2 d1 d2 d v w Q ((gd.same (s1.trans s2)).otr m) e3 (r1.same s2) r2 fun u H3 s3 r3 => q u H3 ((s1.trans s2).trans s3) r3⟩
theorem dp_op {op : Operator} {r : R2} {f : D → D → Option D} (ho : OpR X (binaryOp op) r) (hf : Op2 r f) (ha : DP X B m a ga) (hb : DP X B m b gb) : DP X B m (.BinOp a op b pos) (b2D ga gb f) :=
  dp_bin2 (t := tOp r) (fun ha hb => pe_op ho ha hb) hf ha hb
theorem dp_cmp {op : CmpOp} {r : R2} {f : D → D → Option D} (ho : OpR X (compareOp op) r) (hf : Op2 r f) (ha : DP X B m a ga) (hb : DP X B m b gb) (hm : behindInMarks op b = false) : DP X B m (.Compare a [op] [b] pos) (b2D ga gb f) :=
  dp_bin2 (t := tOp r) (fun ha hb => pe_cmpR ho ha hb hm) hf ha hb
theorem dp_ix {r : R2} {f : D → D → Option D} (ho : IxR X r) (hf : Op2 r f) (ha : DP X B m a ga) (hb : DP X B m b gb) (hs : PlainIx b := by exact fun _ _ => rfl) : DP X B m (.Subscript a b pos) (b2D ga gb f) :=
  dp_bin2 (t := tOp r) (fun ha hb => pe_ix ho ha hb hs) hf ha hb
theorem dp_un {op : UnaryOp} {r : V → Hp → VK → Prop} {f : D → Option D} (ho : UnR X (unaryOp op) r) (hf : Op1 r f) (ha : DP X B m a ga) : DP X B m (.UnaryOp op a pos) (b1D ga f) := ⟨(pe_un ho ha.pe).imp fun σ H Q ⟨O, ρ, d, gd, e, q⟩ => by
  obtain ⟨d1, e1, e3⟩ := bind_some e
  refine ⟨O, ρ, d1, gd, e1, fun v H1 s1 r1 => ?_⟩
  exact hf _ H1 d1 d v Q ((gd.same s1).otr m) e3 r1 fun u H3 s3 r3 => q u H3 (s1.trans s3) r3⟩
/-! ## expressions that draw -/
theorem de_of (h : DP X B .str e g) : DE X B e (toE g) := ⟨h.pe.imp fun σ H Q ⟨O, ρ, d, ρ', gd, e, q⟩ => by
  obtain ⟨d1, e1, e3⟩ := bind_some e
  cases e3
  exact ⟨O, ρ, _, gd, e1, fun v H1 s1 r1 => q v H1 (.of gd s1) r1⟩⟩
theorem de_bin2 {r : R2} {f : D → D → Option D} (ht : ∀ {ta tb : TE}, PE X a ta → PE X b tb → PE X e (fun σ H Q => ta σ H fun x H1 => tb σ H1 fun y H2 => r x y H2 Q)) (hf : Op2 r f) (ha : DE X B a fa) (hb : DE X B b fb) :
    DE X B e (b2E fa fb f) := ⟨(ht ha.pe hb.pe).imp fun σ H Q ⟨O, ρ, d, ρ', gd, e, q⟩ => by
  obtain ⟨⟨d1, ρ1⟩, e1, e'⟩ := bind_some e
  obtain ⟨⟨d2, ρ2⟩, e2, e''⟩ := bind_some e'
  obtain ⟨z, e3, e4⟩ := bind_some e''
  cases e4
  refine ⟨O, ρ, d1, ρ1, gd, e1, fun v H1 s1 r1 => ⟨O, ρ1, d2, ρ2, s1.good, e2, fun w H2 s2 r2 => ?_⟩⟩
  exact hf _ H2 d1 d2 d v w Q (s2.good.otr .str) e3 (s1.good.rep s2.keep r1) r2 fun u H3 s3 r3 => q u H3 ((s1.trans s2).samr s3) r3⟩
theorem de_op {op : Operator} {r : R2} {f : D → D → Option D} (ho : OpR X (binaryOp op) r) (hf : Op2 r f) (ha : DE X B a fa) (hb : DE X B b fb) : DE X B (.BinOp a op b pos) (b2E fa fb f) :=
  de_bin2 (fun ha hb => pe_op ho ha hb) hf ha hb
theorem de_cmp {op : CmpOp} {r : R2} {f : D → D → Option D} (ho : OpR X (compareOp op) r) (hf : Op2 r f) (ha : DE X B a fa) (hb : DE X B b fb) (hm : behindInMarks op b = false) : DE X B (.Compare a [op] [b] pos) (b2E fa fb f) :=
  de_bin2 (fun ha hb => pe_cmpR ho ha hb hm) hf ha hb
theorem de_ix {r : R2} {f : D → D → Option D} (ho : IxR X r) (hf : Op2 r f) (ha : DE X B a fa) (hb : DE X B b fb) (hs : PlainIx b := by exact fun _ _ => rfl) : DE X B (.Subscript a b pos) (b2E fa fb f) :=
  de_bin2 (fun ha hb => pe_ix ho ha hb hs) hf ha hb
theorem de_un {op : UnaryOp} {r : V → Hp → VK → Prop} {f : D → Option D} (ho : UnR X (unaryOp op) r) (hf : Op1 r f) (ha : DE X B a fa) : DE X B (.UnaryOp op a pos) (b1E fa f) := ⟨(pe_un ho ha.pe).imp fun σ H Q ⟨O, ρ, d, ρ', gd, e, q⟩ => by
  obtain ⟨⟨d1, ρ1⟩, e1, e'⟩ := bind_some e
  obtain ⟨z, e3, e4⟩ := bind_some e'
  cases e4
  refine ⟨O, ρ, d1, ρ1, gd, e1, fun v H1 s1 r1 => ?_⟩
  exact hf _ H1 d1 d v Q (s1.good.otr .str) e3 r1 fun u H3 s3 r3 => q u H3 (s1.samr s3) r3⟩
end
end DL

namespace DL
open PySem PySem.Spec
open PyProof.Rows hiding St
open L2
/-! ## operators on data -/
@[simp] def addD : D → D → Option D
  | .int i, .int j => some (.int (i + j))
  | .tuple xs, .tuple ys => if xs.length + ys.length ≤ 100000 then some (.tuple (xs ++ ys)) else none
  | .list xs, .list ys => if xs.length + ys.length ≤ 100000 then some (.list (xs ++ ys)) else none
  | _, _ => none
@[simp] def subD : D → D → Option D
  | .int i, .int j => some (.int (i - j))
  | _, _ => none
@[simp] def mulD : D → D → Option D
  | .int i, .int j => if (-18446744073709551616 < i ∧ i < 18446744073709551616) ∨ (-18446744073709551616 < j ∧ j < 18446744073709551616) then some (.int (i * j)) else none
  | _, _ => none
@[simp] def fdivD : D → D → Option D
  | .int i, .int j => if 0 < j ∧ j < 18446744073709551616 then some (.int (i / j)) else none
  | _, _ => none
@[simp] def modD : D → D → Option D
  | .int i, .int j => if 0 < j then some (.int (i % j)) else none
  | _, _ => none
@[simp] def powD : D → D → Option D
  | .int i, .int j => if 0 ≤ j ∧ j ≤ 1000000 ∧ i.natAbs < 18446744073709551616 then some (.int (i ^ j.toNat)) else none
  | _, _ => none
@[simp] def cmpD (p : Int → Int → Bool) : D → D → Option D
  | .int i, .int j => some (.bool (p i j))
  | _, _ => none
abbrev ltD := cmpD fun i j => decide (i < j)
abbrev leD := cmpD fun i j => decide (i ≤ j)
abbrev gtD := cmpD fun i j => decide (j < i)
abbrev geD := cmpD fun i j => decide (j ≤ i)
@[simp] def eqD (d e : D) : Option D := if SeqAt.shaped d = true ∧ SeqAt.shaped e = true then some (.bool (PyData.eqv d e)) else none
@[simp] def neD (d e : D) : Option D := if SeqAt.shaped d = true ∧ SeqAt.shaped e = true then some (.bool (!PyData.eqv d e)) else none
@[simp] def isNone : D → Bool
  | .none => true
  | _ => false
@[simp] def isND : D → D → Option D
  | d, .none => some (.bool (isNone d))
  | _, _ => none
@[simp] def notND : D → D → Option D
  | d, .none => some (.bool (!isNone d))
  | _, _ => none
@[simp] def isBD : D → D → Option D
  | .bool a, .bool b => some (.bool (decide (a = b)))
  | _, _ => none
@[simp] def notBD : D → D → Option D
  | .bool a, .bool b => some (.bool (!decide (a = b)))
  | _, _ => none
@[simp] def negD : D → Option D
  | .int i => some (.int (-i))
  | _ => none
@[simp] def ixD : D → D → Option D
  | .tuple xs, .int i => atI xs i
  | .list xs, .int i => atI xs i
  | _, _ => none
theorem line_le {n : Nat} (h : n ≤ 100000) : n ≤ sizeLine := by rw [sizeLine_eq]; omega
theorem rep_upd {O : Addr → Prop} {H : Hp} {ds : List D} {vs : List V} {p : Addr} {o : HO} (hp : H p = none) (r : RepL O H ds vs) : RepL O (upd H p o) ds vs :=
  r.same fun b u e => by rw [upd_ne (ne_of_none e hp)]; exact e
theorem same_upd {H : Hp} {p : Addr} {o : HO} (hp : H p = none) : Same H (upd H p o) := fun b u e => by rw [upd_ne (ne_of_none e hp)]; exact e
theorem rep_tup {O : Addr → Prop} {H : Hp} {ds : List D} {vs : List V} {p : Addr} (hp : H p = none) (r : RepL O H ds vs) : Rep O (upd H p (.tup vs)) (.tuple ds) (.ref p) := by
  simp only [Rep]
  exact ⟨p, vs, rfl, upd_same, rep_upd hp r⟩
theorem rep_lst {O : Addr → Prop} {H : Hp} {ds : List D} {vs : List V} {p : Addr} (t : Otr O H) (hp : H p = none) (r : RepL O H ds vs) : Rep O (upd H p (.lst vs)) (.list ds) (.ref p) := by
  simp only [Rep]
  exact ⟨p, vs, rfl, fun z => t p z hp, upd_same, rep_upd hp r⟩
theorem rep_int {O : Addr → Prop} {H : Hp} {i : Int} {v : V} : Rep O H (.int i) v ↔ v = .int i := by simp only [Rep]
theorem rep_bool {O : Addr → Prop} {H : Hp} {i : Bool} {v : V} : Rep O H (.bool i) v ↔ v = .bl i := by simp only [Rep]
theorem rep_none {O : Addr → Prop} {H : Hp} {v : V} : Rep O H .none v ↔ v = .non := by simp only [Rep]
theorem rep_str {O : Addr → Prop} {H : Hp} {x : Str} {v : V} : Rep O H (.str x) v ↔ v = .str x := by simp only [Rep]
theorem o2_int {C : Int → Int → Prop} {g : Int → Int → V} {f : D → D → Option D} (h : ∀ d e z, f d e = some z → ∃ i j, d = .int i ∧ e = .int j ∧ C i j ∧ ∀ O H, Rep O H z (g i j)) : Op2 (rI C g) f := by
  intro O H d e z x y Q t hf rx ry q
  obtain ⟨i, j, rfl, rfl, c, r⟩ := h d e z hf
  exact ⟨i, j, rep_int.mp rx, rep_int.mp ry, c, q _ H (Same.refl H) (r O H)⟩
theorem o2_int0 {g : Int → Int → V} {f : D → D → Option D} (h : ∀ d e z, f d e = some z → ∃ i j, d = .int i ∧ e = .int j ∧ ∀ O H, Rep O H z (g i j)) : Op2 (rI0 g) f := by
  intro O H d e z x y Q t hf rx ry q
  obtain ⟨i, j, rfl, rfl, r⟩ := h d e z hf
  exact ⟨i, j, rep_int.mp rx, rep_int.mp ry, q _ H (Same.refl H) (r O H)⟩
section
variable {X : Cx}
abbrev rAddA (K : PySem.W.Frag) : R2 := fun x y H Q => rI0 (fun i j => .int (i + j)) x y H Q ∨ (rCatA K x y H Q ∨ rCat x y H Q)
theorem op_addA : OpR X (binaryOp .Add) (rAddA X.K) := op_add.or (op_catA.or op_cat)
theorem o_add {K : PySem.W.Frag} : Op2 (rAddA K) addD := by
  intro O H d e z x y Q t hf rx ry q
  unfold addD at hf
  split at hf
  · cases hf
    exact .inl ⟨_, _, rep_int.mp rx, rep_int.mp ry, q _ H (Same.refl H) (rep_int.mpr rfl)⟩
  · split at hf
    · next hl =>
      cases hf
      simp only [Rep] at rx ry
      obtain ⟨a, vs, rfl, ha, r1⟩ := rx
      obtain ⟨b, ws, rfl, hb, r2⟩ := ry
      refine .inr (.inl ⟨a, b, vs, ws, rfl, rfl, .of ha, .of hb, line_le (by rw [← r1.length, ← r2.length]; exact hl), fun e => ?_, fun _ e => ?_, fun _ _ p hp => ?_⟩)
      · subst e
        have := r1.length
        simp at this; subst this
        exact q _ H (Same.refl H) (by simp only [Rep, List.nil_append]; exact ⟨b, ws, rfl, hb, r2⟩)
      · subst e
        have := r2.length
        simp at this; subst this
        exact q _ H (Same.refl H) (by simp only [Rep, List.append_nil]; exact ⟨a, vs, rfl, ha, r1⟩)
      · exact q _ _ (same_upd hp) (rep_tup hp (r1.append r2))
    · cases hf
  · split at hf
    · next hl =>
      cases hf
      simp only [Rep] at rx ry
      obtain ⟨a, vs, rfl, _, ha, r1⟩ := rx
      obtain ⟨b, ws, rfl, _, hb, r2⟩ := ry
      refine .inr (.inr ⟨a, b, vs, ws, rfl, rfl, ha, hb, line_le (by rw [← r1.length, ← r2.length]; exact hl), fun p hp => ?_⟩)
      exact q _ _ (same_upd hp) (rep_lst t hp (r1.append r2))
    · cases hf
  · cases hf
theorem o_sub : Op2 (rI0 fun i j => .int (i - j)) subD := o2_int0 fun d e z h => by
  unfold subD at h
  split at h
  · cases h; exact ⟨_, _, rfl, rfl, fun _ _ => rep_int.mpr rfl⟩
  · cases h
theorem o_mul : Op2 (rI CMul fun i j => .int (i * j)) mulD := o2_int fun d e z h => by
  unfold mulD at h
  split at h
  · split at h
    · next hc => cases h; exact ⟨_, _, rfl, rfl, hc, fun _ _ => rep_int.mpr rfl⟩
    · cases h
  · cases h
theorem o_fdiv : Op2 (rI CDivW fun i j => .int (i / j)) fdivD := o2_int fun d e z h => by
  unfold fdivD at h
  split at h
  · split at h
    · next hc => cases h; exact ⟨_, _, rfl, rfl, wide_div (b := 64) hc.1 (by omega) (by decide) (by decide), fun _ _ => rep_int.mpr rfl⟩
    · cases h
  · cases h
theorem o_mod : Op2 (rI (fun _ j => 0 < j) fun i j => .int (i % j)) modD := o2_int fun d e z h => by
  unfold modD at h
  split at h
  · split at h
    · next hc => cases h; exact ⟨_, _, rfl, rfl, hc, fun _ _ => rep_int.mpr rfl⟩
    · cases h
  · cases h
theorem o_pow : Op2 (rI CPow fun i j => .int (i ^ j.toNat)) powD := o2_int fun d e z h => by
  unfold powD at h
  split at h
  · split at h
    · next hc => cases h; exact ⟨_, _, rfl, rfl, hc, fun _ _ => rep_int.mpr rfl⟩
    · cases h
  · cases h
theorem o_cmp {p : Int → Int → Bool} : Op2 (rI0 fun i j => .bl (p i j)) (cmpD p) := o2_int0 fun d e z h => by
  unfold cmpD at h
  split at h
  · cases h; exact ⟨_, _, rfl, rfl, fun _ _ => rep_bool.mpr rfl⟩
  · cases h
theorem o_eq {K : PySem.W.Frag} : Op2 (rEqD K) eqD := by
  intro O H d e z x y Q t hf rx ry q
  unfold eqD at hf
  split at hf
  · next hs => cases hf; exact ⟨d, e, rx.dp, ry.dp, hs.1, hs.2, q _ H (Same.refl H) (rep_bool.mpr rfl)⟩
  · cases hf
theorem o_ne {K : PySem.W.Frag} : Op2 (rNeD K) neD := by
  intro O H d e z x y Q t hf rx ry q
  unfold neD at hf
  split at hf
  · next hs => cases hf; exact ⟨d, e, rx.dp, ry.dp, hs.1, hs.2, q _ H (Same.refl H) (rep_bool.mpr rfl)⟩
  · cases hf
theorem rep_isNone {O : Addr → Prop} {H : Hp} {d : D} {v : V} (h : Rep O H d v) : decide (v = .non) = isNone d := by
  cases d with
  | none => rw [rep_none.mp h]; rfl
  | bool b => rw [rep_bool.mp h]; rfl
  | int b => rw [rep_int.mp h]; rfl
  | str b => rw [rep_str.mp h]; rfl
  | list ds => simp only [Rep] at h; obtain ⟨a, vs, rfl, _⟩ := h; rfl
  | tuple ds => simp only [Rep] at h; obtain ⟨a, vs, rfl, _⟩ := h; rfl
  | dict ds => simp only [Rep] at h
theorem o_isN : Op2 (fun x y H Q => y = .non ∧ Q (.bl (decide (x = .non))) H) isND := by
  intro O H d e z x y Q t hf rx ry q
  unfold isND at hf
  split at hf
  · cases hf
    exact ⟨rep_none.mp ry, q _ H (Same.refl H) (rep_bool.mpr (by rw [rep_isNone rx]))⟩
  · cases hf
theorem o_notN : Op2 (fun x y H Q => y = .non ∧ Q (.bl (!decide (x = .non))) H) notND := by
  intro O H d e z x y Q t hf rx ry q
  unfold notND at hf
  split at hf
  · cases hf
    exact ⟨rep_none.mp ry, q _ H (Same.refl H) (rep_bool.mpr (by rw [rep_isNone rx]))⟩
  · cases hf
theorem o_isB : Op2 rIsB isBD := by
  intro O H d e z x y Q t hf rx ry q
  unfold isBD at hf
  split at hf
  · cases hf
    exact ⟨_, _, rep_bool.mp rx, rep_bool.mp ry, q _ H (Same.refl H) (rep_bool.mpr rfl)⟩
  · cases hf
theorem o_notB : Op2 rNotB notBD := by
  intro O H d e z x y Q t hf rx ry q
  unfold notBD at hf
  split at hf
  · cases hf
    exact ⟨_, _, rep_bool.mp rx, rep_bool.mp ry, q _ H (Same.refl H) (rep_bool.mpr rfl)⟩
  · cases hf
theorem o_neg : Op1 (rU fun i => .int (-i)) negD := by
  intro O H d z x Q t hf rx q
  unfold negD at hf
  split at hf
  · cases hf; exact ⟨_, rep_int.mp rx, q _ H (Same.refl H) (rep_int.mpr rfl)⟩
  · cases hf
theorem atI_rep {O : Addr → Prop} {H : Hp} {ds : List D} {vs : List V} {i : Int} {d : D} (r : RepL O H ds vs) (h : atI ds i = some d) : ∃ v, atI vs i = some v ∧ Rep O H d v := by
  unfold atI at h ⊢
  rw [← r.length]
  obtain ⟨j, e1, e2⟩ := bind_some h
  obtain ⟨v, e3, r3⟩ := r.get e2
  exact ⟨v, by rw [e1]; exact e3, r3⟩
theorem o_ix {K : PySem.W.Frag} : Op2 (rIx K) ixD := by
  intro O H d e z x y Q t hf rx ry q
  unfold ixD at hf
  split at hf
  · simp only [Rep] at rx
    obtain ⟨a, vs, rfl, ha, r⟩ := rx
    obtain ⟨v, e1, r1⟩ := atI_rep r hf
    exact .inr (.inl ⟨a, vs, _, v, rfl, rep_int.mp ry, .of ha, e1, q v H (Same.refl H) r1⟩)
  · simp only [Rep] at rx
    obtain ⟨a, vs, rfl, _, ha, r⟩ := rx
    obtain ⟨v, e1, r1⟩ := atI_rep r hf
    exact .inl ⟨a, vs, _, v, rfl, rep_int.mp ry, .of ha, e1, q v H (Same.refl H) r1⟩
  · cases hf
end
/-! ## arguments, displays, calls -/
@[simp] def nilA : Rho → Option (List D) := fun _ => some []
@[simp] def consA (g : Rho → Option D) (gs : Rho → Option (List D)) : Rho → Option (List D) := fun ρ => (g ρ).bind fun d => (gs ρ).bind fun ds => some (d :: ds)
@[simp] def nilEA : Rho → Option (List D × Rho) := fun ρ => some ([], ρ)
@[simp] def consEA (f : Rho → Option (D × Rho)) (fs : Rho → Option (List D × Rho)) : Rho → Option (List D × Rho) := fun ρ => (f ρ).bind fun p => (fs p.2).bind fun q => some (p.1 :: q.1, q.2)
@[simp] def tupD (ds : List D) : Option D := if ds.length ≤ 100000 then some (.tuple ds) else none
@[simp] def lstD (ds : List D) : Option D := if ds.length ≤ 100000 then some (.list ds) else none
@[simp] def nD (gs : Rho → Option (List D)) (F : List D → Option D) : Rho → Option D := fun ρ => (gs ρ).bind F
@[simp] def nE (fs : Rho → Option (List D × Rho)) (F : List D → Option D) : Rho → Option (D × Rho) := fun ρ => (fs ρ).bind fun p => (F p.1).bind fun z => some (z, p.2)
def spP (F : List D → Option D) : Sp := fun vs H Q _ => ∃ O ds d, Otr O H ∧ RepL O H ds vs ∧ F ds = some d ∧ ∀ v H', Same H H' → Rep O H' d v → Q v H'
structure Fn (P : Program) (w : World) (K : PySem.W.Frag) (mg : Str → Option Value) (base : Heap) (k : Nat) (x : Str) (F : List D → Option D) : Prop where
  ex : ∃ f fd ps, FnOk P w K mg base CX0 k f fd ps (spP F) ∧ mg x = some (.ref f) ∧ PySem.W.keepIn K (.ref f) = true ∧ Binds K fd ps []
def OpNT (r : TA → TE) (F : List D → Option D) (B : Base) (m : Md) : Prop := ∀ gs, ∀ σ H Q, tP B m (nD gs F) σ H Q → r (tPA B m gs) σ H Q
section
variable {X : Cx} {B : Base} {m : Md} {e : Expr} {es : List Expr} {g : Rho → Option D} {gs : Rho → Option (List D)} {f : Rho → Option (D × Rho)} {fs : Rho → Option (List D × Rho)} {pos p : Pos}
theorem dpa_nil : DPA X B m [] nilA := ⟨pa_nil.imp fun σ H Q ⟨O, ρ, ds, gd, e, q⟩ => by
  cases e
  exact q [] H (Same.refl H) .nil⟩
theorem dpa_cons (h : DP X B m e g) (hs : DPA X B m es gs) (hst : starEach (e :: es) X.env = (false, eval e X.env) :: starEach es X.env := by rfl) : DPA X B m (e :: es) (consA g gs) := ⟨(pa_cons h.pe hs.pa hst).imp fun σ H Q ⟨O, ρ, ds, gd, e, q⟩ => by
  obtain ⟨d1, e1, e'⟩ := bind_some e
  obtain ⟨d2, e2, e3⟩ := bind_some e'
  cases e3
  exact ⟨O, ρ, d1, gd, e1, fun v H1 s1 r1 => ⟨O, ρ, d2, gd.same s1, e2, fun w H2 s2 r2 => q _ H2 (s1.trans s2) (.cons (r1.same s2) r2)⟩⟩⟩
theorem dea_nil : DEA X B [] nilEA := ⟨pa_nil.imp fun σ H Q ⟨O, ρ, ds, ρ', gd, e, q⟩ => by
  cases e
  exact q [] H (.of gd (Same.refl H)) .nil⟩
theorem dea_cons (h : DE X B e f) (hs : DEA X B es fs) (hst : starEach (e :: es) X.env = (false, eval e X.env) :: starEach es X.env := by rfl) : DEA X B (e :: es) (consEA f fs) := ⟨(pa_cons h.pe hs.pa hst).imp fun σ H Q ⟨O, ρ, ds, ρ', gd, e, q⟩ => by
  obtain ⟨⟨d1, ρ1⟩, e1, e'⟩ := bind_some e
  obtain ⟨⟨d2, ρ2⟩, e2, e3⟩ := bind_some e'
  cases e3
  exact ⟨O, ρ, d1, ρ1, gd, e1, fun v H1 s1 r1 => ⟨O, ρ1, d2, ρ2, s1.good, e2, fun w H2 s2 r2 => q _ H2 (s1.trans s2) (.cons (s1.good.rep s2.keep r1) r2)⟩⟩⟩
theorem dp_n {t : TA → TE} (ht : ∀ {ta : TA}, PA X es ta → PE X e (t ta)) (F : List D → Option D) (hF : ∀ σ H Q O ρ ds z, Good B O σ H ρ → gs ρ = some ds → F ds = some z → (∀ v H', Same H H' → Rep (m.O B O) H' z v → Q v H') → t (tPA B m gs) σ H Q) (ha : DPA X B m es gs) : DP X B m e (nD gs F) :=
  ⟨(ht ha.pa).imp fun σ H Q ⟨O, ρ, d, gd, e, q⟩ => by
    obtain ⟨ds, e1, e2⟩ := bind_some e
    exact hF σ H Q O ρ ds d gd e1 e2 q⟩
theorem dp_tup {k} (ha : DPA X B m es gs) : DP X B m (.Tuple es k pos) (nD gs tupD) := dp_n (t := tTup) (fun h => pe_tup h) tupD (fun σ H Q O ρ ds z gd e1 e2 q => by
  refine ⟨O, ρ, ds, gd, e1, fun vs H1 s1 r1 => ?_⟩
  unfold tupD at e2
  split at e2
  · next hl =>
    cases e2
    exact ⟨line_le (by rw [← r1.length]; exact hl), fun p hp => q _ _ (s1.trans (same_upd hp)) (rep_tup hp r1)⟩
  · cases e2) ha
theorem dp_lst (ha : DPA X B m es gs) : DP X B m (.List es pos) (nD gs lstD) := dp_n (t := tLst) (fun h => pe_lst h) lstD (fun σ H Q O ρ ds z gd e1 e2 q => by
  refine ⟨O, ρ, ds, gd, e1, fun vs H1 s1 r1 => ?_⟩
  unfold lstD at e2
  split at e2
  · next hl =>
    cases e2
    exact ⟨line_le (by rw [← r1.length]; exact hl), fun p hp => q _ _ (s1.trans (same_upd hp)) (rep_lst ((gd.same s1).otr m) hp r1)⟩
  · cases e2) ha
theorem de_n {t : TA → TE} (ht : ∀ {ta : TA}, PA X es ta → PE X e (t ta)) (F : List D → Option D) (hF : ∀ σ H Q O ρ ρ' ds z, Good B O σ H ρ → fs ρ = some (ds, ρ') → F ds = some z → (∀ v H', Ext B O σ H ρ H' ρ' → Rep O H' z v → Q v H') → t (tEA B fs) σ H Q) (ha : DEA X B es fs) : DE X B e (nE fs F) :=
  ⟨(ht ha.pa).imp fun σ H Q ⟨O, ρ, d, ρ', gd, e, q⟩ => by
    obtain ⟨⟨ds, ρ1⟩, e1, e2⟩ := bind_some e
    obtain ⟨z, e3, e4⟩ := bind_some e2
    cases e4
    exact hF σ H Q O ρ _ ds d gd e1 e3 q⟩
theorem de_tup {k} (ha : DEA X B es fs) : DE X B (.Tuple es k pos) (nE fs tupD) := de_n (t := tTup) (fun h => pe_tup h) tupD (fun σ H Q O ρ ρ' ds z gd e1 e2 q => by
  refine ⟨O, ρ, ds, ρ', gd, e1, fun vs H1 s1 r1 => ?_⟩
  unfold tupD at e2
  split at e2
  · next hl =>
    cases e2
    exact ⟨line_le (by rw [← r1.length]; exact hl), fun p hp => q _ _ (s1.samr (same_upd hp)) (rep_tup hp r1)⟩
  · cases e2) ha
theorem de_lst (ha : DEA X B es fs) : DE X B (.List es pos) (nE fs lstD) := de_n (t := tLst) (fun h => pe_lst h) lstD (fun σ H Q O ρ ρ' ds z gd e1 e2 q => by
  refine ⟨O, ρ, ds, ρ', gd, e1, fun vs H1 s1 r1 => ?_⟩
  unfold lstD at e2
  split at e2
  · next hl =>
    cases e2
    exact ⟨line_le (by rw [← r1.length]; exact hl), fun p hp => q _ _ (s1.samr (same_upd hp)) (rep_lst (s1.good.otr .str) hp r1)⟩
  · cases e2) ha
/-! ### built-in functions and types -/
theorem dp_b {x : Str} {id : String} {r : List V → Hp → VK → Prop} {F : List D → Option D} (hc : CallR X (.builtin id) r) (hF : OpN r F) (hm : X.mg x = none) (hv : bootBuiltins x = some (.builtin id)) (ha : DPA X B m (e :: es) gs) (hg : Gl X x := by rfl) (hn : x ≠ "__name__" := by decide) (hdb : (x == ("__debug__" : Str)) = false := by decide)
    (he : starEach (e :: es) X.env = (false, eval e X.env) :: starEach es X.env := by rfl) (hpl : (backTo pos (starEach es X.env)).any (·.1) = false := by rfl) : DP X B m (.Call (.Name x p) (e :: es) [] pos) (nD gs F) :=
  dp_n (t := tCB r) (fun h => pe_callB hc hg hm hv h hn hdb he hpl) F (fun σ H Q O ρ ds z gd e1 e2 q => ⟨O, ρ, ds, gd, e1, fun vs H1 s1 r1 => hF _ H1 ds z vs Q ((gd.same s1).otr m) e2 r1 fun v H2 s2 r2 => q v H2 (s1.trans s2) r2⟩) ha
theorem de_b {x : Str} {id : String} {r : List V → Hp → VK → Prop} {F : List D → Option D} (hc : CallR X (.builtin id) r) (hF : OpN r F) (hm : X.mg x = none) (hv : bootBuiltins x = some (.builtin id)) (ha : DEA X B (e :: es) fs) (hg : Gl X x := by rfl) (hn : x ≠ "__name__" := by decide) (hdb : (x == ("__debug__" : Str)) = false := by decide)
    (he : starEach (e :: es) X.env = (false, eval e X.env) :: starEach es X.env := by rfl) (hpl : (backTo pos (starEach es X.env)).any (·.1) = false := by rfl) : DE X B (.Call (.Name x p) (e :: es) [] pos) (nE fs F) :=
  de_n (t := tCB r) (fun h => pe_callB hc hg hm hv h hn hdb he hpl) F (fun σ H Q O ρ ρ' ds z gd e1 e2 q => ⟨O, ρ, ds, ρ', gd, e1, fun vs H1 s1 r1 => hF _ H1 ds z vs Q (s1.good.otr .str) e2 r1 fun v H2 s2 r2 => q v H2 (s1.samr s2) r2⟩) ha
theorem dp_ty {x : Str} {T : String} {r : List V → Hp → VK → Prop} {F : List D → Option D} (hc : CallR X (.type T) r) (hF : OpN r F) (hm : X.mg x = none) (hv : bootBuiltins x = some (.type T)) (ha : DPA X B m (e :: es) gs) (hg : Gl X x := by rfl) (hn : x ≠ "__name__" := by decide) (hdb : (x == ("__debug__" : Str)) = false := by decide)
    (he : starEach (e :: es) X.env = (false, eval e X.env) :: starEach es X.env := by rfl) (hpl : (backTo pos (starEach es X.env)).any (·.1) = false := by rfl) : DP X B m (.Call (.Name x p) (e :: es) [] pos) (nD gs F) :=
  dp_n (t := tCB r) (fun h => pe_callTy hc hg hm hv h hn hdb he hpl) F (fun σ H Q O ρ ds z gd e1 e2 q => ⟨O, ρ, ds, gd, e1, fun vs H1 s1 r1 => hF _ H1 ds z vs Q ((gd.same s1).otr m) e2 r1 fun v H2 s2 r2 => q v H2 (s1.trans s2) r2⟩) ha
theorem de_ty {x : Str} {T : String} {r : List V → Hp → VK → Prop} {F : List D → Option D} (hc : CallR X (.type T) r) (hF : OpN r F) (hm : X.mg x = none) (hv : bootBuiltins x = some (.type T)) (ha : DEA X B (e :: es) fs) (hg : Gl X x := by rfl) (hn : x ≠ "__name__" := by decide) (hdb : (x == ("__debug__" : Str)) = false := by decide)
    (he : starEach (e :: es) X.env = (false, eval e X.env) :: starEach es X.env := by rfl) (hpl : (backTo pos (starEach es X.env)).any (·.1) = false := by rfl) : DE X B (.Call (.Name x p) (e :: es) [] pos) (nE fs F) :=
  de_n (t := tCB r) (fun h => pe_callTy hc hg hm hv h hn hdb he hpl) F (fun σ H Q O ρ ρ' ds z gd e1 e2 q => ⟨O, ρ, ds, ρ', gd, e1, fun vs H1 s1 r1 => hF _ H1 ds z vs Q (s1.good.otr .str) e2 r1 fun v H2 s2 r2 => q v H2 (s1.samr s2) r2⟩) ha
/-! ### defs of the text -/
theorem dp_call {x : Str} {k j : Nat} {F : List D → Option D} (hF : Fn X.prog X.w X.K X.mg X.base k x F) (hr : Room j X.A) (hk : k ≤ j) (ha : DPA X B m (e :: es) gs) (hg : Gl X x := by rfl) (hdb : (x == ("__debug__" : Str)) = false := by decide)
    (he : starEach (e :: es) X.env = (false, eval e X.env) :: starEach es X.env := by rfl) (hpl : (backTo pos (starEach es X.env)).any (·.1) = false := by rfl) : DP X B m (.Call (.Name x p) (e :: es) [] pos) (nD gs F) := by
  obtain ⟨fa, fd, ps, G, hm, kp, b⟩ := hF.ex
  refine dp_n (t := tCall (spP F) [] E0) (fun h => pe_call G (hr.mono hk) hg hm kp b .nil pass0 h hdb he hpl) F (fun σ H Q O ρ ds z gd e1 e2 q => ⟨O, ρ, ds, gd, e1, fun vs H1 s1 r1 => ?_⟩) ha
  show spP F (vs ++ []) H1 Q E0
  rw [List.append_nil]
  exact ⟨_, ds, z, (gd.same s1).otr m, r1, e2, fun v H2 s2 r2 => q v H2 (s1.trans s2) r2⟩
theorem de_call {x : Str} {k j : Nat} {F : List D → Option D} (hF : Fn X.prog X.w X.K X.mg X.base k x F) (hr : Room j X.A) (hk : k ≤ j) (ha : DEA X B (e :: es) fs) (hg : Gl X x := by rfl) (hdb : (x == ("__debug__" : Str)) = false := by decide)
    (he : starEach (e :: es) X.env = (false, eval e X.env) :: starEach es X.env := by rfl) (hpl : (backTo pos (starEach es X.env)).any (·.1) = false := by rfl) : DE X B (.Call (.Name x p) (e :: es) [] pos) (nE fs F) := by
  obtain ⟨fa, fd, ps, G, hm, kp, b⟩ := hF.ex
  refine de_n (t := tCall (spP F) [] E0) (fun h => pe_call G (hr.mono hk) hg hm kp b .nil pass0 h hdb he hpl) F (fun σ H Q O ρ ρ' ds z gd e1 e2 q => ⟨O, ρ, ds, ρ', gd, e1, fun vs H1 s1 r1 => ?_⟩) ha
  show spP F (vs ++ []) H1 Q E0
  rw [List.append_nil]
  exact ⟨_, ds, z, s1.good.otr .str, r1, e2, fun v H2 s2 r2 => q v H2 (s1.samr s2) r2⟩
end
end DL

namespace DL
open PySem PySem.Spec
open PyProof.Rows hiding St
open L2
/-! ## tests -/
structure DPW (X : Cx) (B : Base) (e : Expr) (g : Rho → Option Bool) : Prop where
  pw : PW X e (tPT B g)
structure DEW (X : Cx) (B : Base) (e : Expr) (f : Rho → Option (Bool × Rho)) : Prop where
  pw : PW X e (tET B f)
@[simp] def tstD (g : Rho → Option D) : Rho → Option Bool := fun ρ => (g ρ).bind asBool
@[simp] def andT (g h : Rho → Option Bool) : Rho → Option Bool := fun ρ => (g ρ).bind fun c => if c = true then h ρ else some false
@[simp] def orT (g h : Rho → Option Bool) : Rho → Option Bool := fun ρ => (g ρ).bind fun c => if c = true then some true else h ρ
@[simp] def notT (g : Rho → Option Bool) : Rho → Option Bool := fun ρ => (g ρ).bind fun c => some (!c)
@[simp] def ifD (c : Rho → Option Bool) (g h : Rho → Option D) : Rho → Option D := fun ρ => (c ρ).bind fun c => if c = true then g ρ else h ρ
@[simp] def andV (g h : Rho → Option D) : Rho → Option D := fun ρ => (g ρ).bind fun d => (asBool d).bind fun c => if c = true then h ρ else some (.bool false)
@[simp] def orV (g h : Rho → Option D) : Rho → Option D := fun ρ => (g ρ).bind fun d => (asBool d).bind fun c => if c = true then some (.bool true) else h ρ
@[simp] def notD : D → Option D
  | .bool b => some (.bool (!b))
  | _ => none
@[simp] def chD (f1 f2 : D → D → Option D) (ga gb gc : Rho → Option D) : Rho → Option D := fun ρ => (ga ρ).bind fun a => (gb ρ).bind fun b => (f1 a b).bind fun r => (asBool r).bind fun c => if c = true then (gc ρ).bind fun d => f2 b d else some (.bool false)
@[simp] def tstE (f : Rho → Option (D × Rho)) : Rho → Option (Bool × Rho) := fun ρ => (f ρ).bind fun p => (asBool p.1).bind fun c => some (c, p.2)
@[simp] def toT (g : Rho → Option Bool) : Rho → Option (Bool × Rho) := fun ρ => (g ρ).bind fun c => some (c, ρ)
@[simp] def andE (g h : Rho → Option (Bool × Rho)) : Rho → Option (Bool × Rho) := fun ρ => (g ρ).bind fun p => if p.1 = true then h p.2 else some (false, p.2)
@[simp] def orE (g h : Rho → Option (Bool × Rho)) : Rho → Option (Bool × Rho) := fun ρ => (g ρ).bind fun p => if p.1 = true then some (true, p.2) else h p.2
@[simp] def notE (g : Rho → Option (Bool × Rho)) : Rho → Option (Bool × Rho) := fun ρ => (g ρ).bind fun p => some (!p.1, p.2)
@[simp] def ifE (c : Rho → Option (Bool × Rho)) (g h : Rho → Option (D × Rho)) : Rho → Option (D × Rho) := fun ρ => (c ρ).bind fun p => if p.1 = true then g p.2 else h p.2
theorem asBool_some {d : D} {c : Bool} (h : asBool d = some c) : d = .bool c := by
  unfold asBool at h
  split at h
  · cases h; rfl
  · cases h
section
variable {X : Cx} {B : Base} {m : Md} {a b c e : Expr} {es : List Expr} {ga gb gc g : Rho → Option D} {fa fb f : Rho → Option (D × Rho)} {ta tb tt : Rho → Option Bool} {ua ub uu : Rho → Option (Bool × Rho)} {pos p : Pos}
theorem dt_val (h : DP X B m e g) (he : ∀ whole, isTrue e X.env whole = (do let v ← whole; standAt e.pos; holding [v] (truthy v)) := by intro _; rfl) : DPT X B e (tstD g) := ⟨(pt_val h.pe he).imp fun σ H Q ⟨O, ρ, k, gd, e, q⟩ => by
  obtain ⟨d, e1, e2⟩ := bind_some e
  cases asBool_some e2
  exact ⟨O, ρ, _, gd, e1, fun v H1 s1 r1 => ⟨k, rep_bool.mp r1, q H1 s1⟩⟩⟩
theorem dt_bin2 {r : R2} {F : D → D → Option D} (ht : ∀ {ta tb : TE}, PE X a ta → PE X b tb → PT X e (tTest fun σ H Q => ta σ H fun x H1 => tb σ H1 fun y H2 => r x y H2 Q)) (hf : Op2 r F) (ha : DP X B m a ga) (hb : DP X B m b gb) : DPT X B e (tstD (b2D ga gb F)) :=
  ⟨(ht ha.pe hb.pe).imp fun σ H Q ⟨O, ρ, k, gd, e, q⟩ => by
    obtain ⟨d, e0, ek⟩ := bind_some e
    obtain ⟨d1, e1, e'⟩ := bind_some e0
    obtain ⟨d2, e2, e3⟩ := bind_some e'
    cases asBool_some ek
    refine ⟨O, ρ, d1, gd, e1, fun v H1 s1 r1 => ⟨O, ρ, d2, gd.same s1, e2, fun w H2 s2 r2 => ?_⟩⟩
    exact hf _ H2 d1 d2 _ v w _ ((gd.same (s1.trans s2)).otr m) e3 (r1.same s2) r2 fun u H3 s3 r3 => ⟨k, rep_bool.mp r3, q H3 ((s1.trans s2).trans s3)⟩⟩
theorem dt_cmp {op : CmpOp} {r : R2} {F : D → D → Option D} (ho : OpR X (compareOp op) r) (hf : Op2 r F) (ha : DP X B m a ga) (hb : DP X B m b gb) (hm : behindInMarks op b = false) : DPT X B (.Compare a [op] [b] pos) (tstD (b2D ga gb F)) :=
  dt_bin2 (fun ha hb => pt_cmpR ho ha hb hm) hf ha hb
theorem ch_imp {r r' : R2} {F F' : D → D → Option D} (hf : Op2 r F) (hf' : Op2 r' F') {σ : St} {H : Hp} {Q : VK} (h : tP B m (chD F F' ga gb gc) σ H Q) : tChain r r' (tP B m ga) (tP B m gb) (tP B m gc) σ H Q := by
  obtain ⟨O, ρ, z, gd, e, q⟩ := h
  obtain ⟨d1, e1, e'⟩ := bind_some e
  obtain ⟨d2, e2, e3⟩ := bind_some e'
  obtain ⟨d3, e3, e4⟩ := bind_some e3
  obtain ⟨k, e5, e6⟩ := bind_some e4
  cases asBool_some e5
  refine ⟨O, ρ, d1, gd, e1, fun v H1 s1 r1 => ⟨O, ρ, d2, gd.same s1, e2, fun w H2 s2 r2 => ?_⟩⟩
  refine hf _ H2 d1 d2 _ v w _ ((gd.same (s1.trans s2)).otr m) e3 (r1.same s2) r2 fun u H3 s3 r3 => ⟨k, rep_bool.mp r3, ?_⟩
  cases k with
  | false =>
    cases e6
    exact q _ H3 ((s1.trans s2).trans s3) (rep_bool.mpr rfl)
  | true =>
    obtain ⟨d4, e7, e8⟩ := bind_some e6
    refine ⟨O, ρ, d4, gd.same ((s1.trans s2).trans s3), e7, fun y H4 s4 r4 => ?_⟩
    exact hf' _ H4 d2 d4 z w y Q ((gd.same (((s1.trans s2).trans s3).trans s4)).otr m) e8 ((r2.same s3).same s4) r4 fun u H5 s5 r5 => q u H5 ((((s1.trans s2).trans s3).trans s4).trans s5) r5
theorem dp_chain {op op' : CmpOp} {r r' : R2} {F F' : D → D → Option D} (ho : OpR X (compareOp op) r) (hf : Op2 r F) (ho' : OpR X (compareOp op') r') (hf' : Op2 r' F') (ha : DP X B m a ga) (hb : DP X B m b gb) (hc : DP X B m c gc)
    (h1 : lastMarks [op, op'] [b, c] = false := by with_unfolding_all rfl) : DP X B m (.Compare a [op, op'] [b, c] pos) (chD F F' ga gb gc) :=
  ⟨(pe_chain ho ho' ha.pe hb.pe hc.pe h1).imp fun σ H Q h => ch_imp hf hf' h⟩
theorem dt_chain {op op' : CmpOp} {r r' : R2} {F F' : D → D → Option D} (ho : OpR X (compareOp op) r) (hf : Op2 r F) (ho' : OpR X (compareOp op') r') (hf' : Op2 r' F') (ha : DP X B m a ga) (hb : DP X B m b gb) (hc : DP X B m c gc)
    (h1 : lastMarks [op, op'] [b, c] = false := by with_unfolding_all rfl) : DPT X B (.Compare a [op, op'] [b, c] pos) (tstD (chD F F' ga gb gc)) :=
  ⟨(pt_chain ho ho' ha.pe hb.pe hc.pe h1).imp fun σ H Q ⟨O, ρ, k, gd, e, q⟩ => by
    obtain ⟨d, e0, ek⟩ := bind_some e
    cases asBool_some ek
    exact ch_imp hf hf' ⟨O, ρ, _, gd, e0, fun v H1 s1 r1 => ⟨k, rep_bool.mp r1, q H1 s1⟩⟩⟩
theorem dw_and1 (h : DPT X B a ta) : DPW X B (.BoolOp .And [a] pos) ta := ⟨pw_and1 h.pt⟩
theorem dw_or1 (h : DPT X B a ta) : DPW X B (.BoolOp .Or [a] pos) ta := ⟨pw_or1 h.pt⟩
theorem dw_and (h : DPT X B a ta) (h2 : DPW X B (.BoolOp .And (b :: es) pos) tb) : DPW X B (.BoolOp .And (a :: b :: es) pos) (andT ta tb) := ⟨(pw_and h.pt h2.pw).imp fun σ H Q ⟨O, ρ, k, gd, e, q⟩ => by
  obtain ⟨c, e1, e2⟩ := bind_some e
  refine ⟨O, ρ, c, gd, e1, fun H1 s1 => ?_⟩
  cases c with
  | false => cases e2; exact q H1 s1
  | true => exact ⟨O, ρ, k, gd.same s1, e2, fun H2 s2 => q H2 (s1.trans s2)⟩⟩
theorem dw_or (h : DPT X B a ta) (h2 : DPW X B (.BoolOp .Or (b :: es) pos) tb) : DPW X B (.BoolOp .Or (a :: b :: es) pos) (orT ta tb) := ⟨(pw_or h.pt h2.pw).imp fun σ H Q ⟨O, ρ, k, gd, e, q⟩ => by
  obtain ⟨c, e1, e2⟩ := bind_some e
  refine ⟨O, ρ, c, gd, e1, fun H1 s1 => ?_⟩
  cases c with
  | true => cases e2; exact q H1 s1
  | false => exact ⟨O, ρ, k, gd.same s1, e2, fun H2 s2 => q H2 (s1.trans s2)⟩⟩
theorem dt_w (h : DPW X B e tt) : DPT X B e tt := ⟨h.pw.pt⟩
theorem dt_not (h : DPT X B a ta) : DPT X B (.UnaryOp .Not a pos) (notT ta) := ⟨(pt_not h.pt).imp fun σ H Q ⟨O, ρ, k, gd, e, q⟩ => by
  obtain ⟨c, e1, e2⟩ := bind_some e
  cases e2
  exact ⟨O, ρ, c, gd, e1, fun H1 s1 => q H1 s1⟩⟩
theorem dp_if (hc : DPT X B c tt) (ha : DP X B m a ga) (hb : DP X B m b gb) : DP X B m (.IfExp c a b pos) (ifD tt ga gb) := ⟨(pe_ifExp hc.pt ha.pe hb.pe).imp fun σ H Q ⟨O, ρ, d, gd, e, q⟩ => by
  obtain ⟨k, e1, e2⟩ := bind_some e
  refine ⟨O, ρ, k, gd, e1, fun H1 s1 => ?_⟩
  cases k with
  | true => exact ⟨O, ρ, d, gd.same s1, e2, fun v H2 s2 r => q v H2 (s1.trans s2) r⟩
  | false => exact ⟨O, ρ, d, gd.same s1, e2, fun v H2 s2 r => q v H2 (s1.trans s2) r⟩⟩
theorem dp_one {op} (h : DP X B m a ga) : DP X B m (.BoolOp op [a] pos) ga := ⟨pe_one h.pe⟩
theorem dp_and (h : DP X B m a ga) (h2 : DP X B m (.BoolOp .And (b :: es) pos) gb) : DP X B m (.BoolOp .And (a :: b :: es) pos) (andV ga gb) := ⟨(pe_and h.pe h2.pe).imp fun σ H Q ⟨O, ρ, d, gd, e, q⟩ => by
  obtain ⟨d1, e1, e2⟩ := bind_some e
  obtain ⟨c, e3, e4⟩ := bind_some e2
  cases asBool_some e3
  refine ⟨O, ρ, _, gd, e1, fun v H1 s1 r1 => ⟨c, rep_bool.mp r1, ?_⟩⟩
  cases c with
  | false => cases e4; exact q _ H1 s1 (rep_bool.mpr rfl)
  | true => exact ⟨O, ρ, d, gd.same s1, e4, fun v H2 s2 r => q v H2 (s1.trans s2) r⟩⟩
theorem dp_or (h : DP X B m a ga) (h2 : DP X B m (.BoolOp .Or (b :: es) pos) gb) : DP X B m (.BoolOp .Or (a :: b :: es) pos) (orV ga gb) := ⟨(pe_or h.pe h2.pe).imp fun σ H Q ⟨O, ρ, d, gd, e, q⟩ => by
  obtain ⟨d1, e1, e2⟩ := bind_some e
  obtain ⟨c, e3, e4⟩ := bind_some e2
  cases asBool_some e3
  refine ⟨O, ρ, _, gd, e1, fun v H1 s1 r1 => ⟨c, rep_bool.mp r1, ?_⟩⟩
  cases c with
  | true => cases e4; exact q _ H1 s1 (rep_bool.mpr rfl)
  | false => exact ⟨O, ρ, d, gd.same s1, e4, fun v H2 s2 r => q v H2 (s1.trans s2) r⟩⟩
theorem dp_not (h : DP X B m a ga) : DP X B m (.UnaryOp .Not a pos) (b1D ga notD) := ⟨(pe_not h.pe).imp fun σ H Q ⟨O, ρ, d, gd, e, q⟩ => by
  obtain ⟨d1, e1, e2⟩ := bind_some e
  unfold notD at e2
  split at e2
  · cases e2
    exact ⟨O, ρ, _, gd, e1, fun v H1 s1 r1 => ⟨_, rep_bool.mp r1, q _ H1 s1 (rep_bool.mpr rfl)⟩⟩
  · cases e2⟩
/-! ### tests that draw -/
theorem det_of (h : DPT X B e tt) : DET X B e (toT tt) := ⟨h.pt.imp fun σ H Q ⟨O, ρ, k, ρ', gd, e, q⟩ => by
  obtain ⟨c, e1, e2⟩ := bind_some e
  cases e2
  exact ⟨O, ρ, _, gd, e1, fun H1 s1 => q H1 (.of gd s1)⟩⟩
theorem det_val (h : DE X B e f) (he : ∀ whole, isTrue e X.env whole = (do let v ← whole; standAt e.pos; holding [v] (truthy v)) := by intro _; rfl) : DET X B e (tstE f) := ⟨(pt_val h.pe he).imp fun σ H Q ⟨O, ρ, k, ρ', gd, e, q⟩ => by
  obtain ⟨⟨d, ρ1⟩, e1, e2⟩ := bind_some e
  obtain ⟨c, e3, e4⟩ := bind_some e2
  cases asBool_some e3
  cases e4
  exact ⟨O, ρ, _, _, gd, e1, fun v H1 s1 r1 => ⟨k, rep_bool.mp r1, q H1 s1⟩⟩⟩
theorem det_cmp {op : CmpOp} {r : R2} {F : D → D → Option D} (ho : OpR X (compareOp op) r) (hf : Op2 r F) (ha : DE X B a fa) (hb : DE X B b fb) (hm : behindInMarks op b = false) : DET X B (.Compare a [op] [b] pos) (tstE (b2E fa fb F)) :=
  ⟨(pt_cmpR ho ha.pe hb.pe hm).imp fun σ H Q ⟨O, ρ, k, ρ', gd, e, q⟩ => by
    obtain ⟨⟨d, ρ0⟩, e0, ek⟩ := bind_some e
    obtain ⟨⟨d1, ρ1⟩, e1, e'⟩ := bind_some e0
    obtain ⟨⟨d2, ρ2⟩, e2, e''⟩ := bind_some e'
    obtain ⟨z, e3, e4⟩ := bind_some e''
    cases e4
    obtain ⟨c, e5, e6⟩ := bind_some ek
    cases asBool_some e5
    cases e6
    refine ⟨O, ρ, d1, ρ1, gd, e1, fun v H1 s1 r1 => ⟨O, ρ1, d2, _, s1.good, e2, fun w H2 s2 r2 => ?_⟩⟩
    exact hf _ H2 d1 d2 _ v w _ (s2.good.otr .str) e3 (s1.good.rep s2.keep r1) r2 fun u H3 s3 r3 => ⟨k, rep_bool.mp r3, q H3 ((s1.trans s2).samr s3)⟩⟩
theorem dew_and1 (h : DET X B a ua) : DEW X B (.BoolOp .And [a] pos) ua := ⟨pw_and1 h.pt⟩
theorem dew_or1 (h : DET X B a ua) : DEW X B (.BoolOp .Or [a] pos) ua := ⟨pw_or1 h.pt⟩
theorem dew_and (h : DET X B a ua) (h2 : DEW X B (.BoolOp .And (b :: es) pos) ub) : DEW X B (.BoolOp .And (a :: b :: es) pos) (andE ua ub) := ⟨(pw_and h.pt h2.pw).imp fun σ H Q ⟨O, ρ, k, ρ', gd, e, q⟩ => by
  obtain ⟨⟨c, ρ1⟩, e1, e2⟩ := bind_some e
  refine ⟨O, ρ, c, ρ1, gd, e1, fun H1 s1 => ?_⟩
  cases c with
  | false => cases e2; exact q H1 s1
  | true => exact ⟨O, ρ1, k, ρ', s1.good, e2, fun H2 s2 => q H2 (s1.trans s2)⟩⟩
theorem dew_or (h : DET X B a ua) (h2 : DEW X B (.BoolOp .Or (b :: es) pos) ub) : DEW X B (.BoolOp .Or (a :: b :: es) pos) (orE ua ub) := ⟨(pw_or h.pt h2.pw).imp fun σ H Q ⟨O, ρ, k, ρ', gd, e, q⟩ => by
  obtain ⟨⟨c, ρ1⟩, e1, e2⟩ := bind_some e
  refine ⟨O, ρ, c, ρ1, gd, e1, fun H1 s1 => ?_⟩
  cases c with
  | true => cases e2; exact q H1 s1
  | false => exact ⟨O, ρ1, k, ρ', s1.good, e2, fun H2 s2 => q H2 (s1.trans s2)⟩⟩
theorem det_w (h : DEW X B e uu) : DET X B e uu := ⟨h.pw.pt⟩
theorem det_not (h : DET X B a ua) : DET X B (.UnaryOp .Not a pos) (notE ua) := ⟨(pt_not h.pt).imp fun σ H Q ⟨O, ρ, k, ρ', gd, e, q⟩ => by
  obtain ⟨⟨c, ρ1⟩, e1, e2⟩ := bind_some e
  cases e2
  exact ⟨O, ρ, c, _, gd, e1, fun H1 s1 => q H1 s1⟩⟩
theorem de_if (hc : DET X B c uu) (ha : DE X B a fa) (hb : DE X B b fb) : DE X B (.IfExp c a b pos) (ifE uu fa fb) := ⟨(pe_ifExp hc.pt ha.pe hb.pe).imp fun σ H Q ⟨O, ρ, d, ρ', gd, e, q⟩ => by
  obtain ⟨⟨k, ρ1⟩, e1, e2⟩ := bind_some e
  refine ⟨O, ρ, k, ρ1, gd, e1, fun H1 s1 => ?_⟩
  cases k with
  | true => exact ⟨O, ρ1, d, ρ', s1.good, e2, fun v H2 s2 r => q v H2 (s1.trans s2) r⟩
  | false => exact ⟨O, ρ1, d, ρ', s1.good, e2, fun v H2 s2 r => q v H2 (s1.trans s2) r⟩⟩
end
end DL

namespace DL
open PySem PySem.Spec
open PyProof.Rows hiding St
open L2
/-! ## statements -/
inductive Out where
  | nx (ρ : Rho) | rt (d : D) (ρ : Rho)
structure Stp (O : Addr → Prop) (σ : St) (H : Hp) (ρ : Rho) (O' : Addr → Prop) (σ' : St) (H' : Hp) (ρ' : Rho) : Prop where
  keep : Keep (Wof σ ρ) H H'
  out : ∀ b, O' b → O b ∨ H b = none
  grow : ∀ b, O b → O' b
  w : ∀ b, Wof σ' ρ' b → Wof σ ρ b ∨ H b = none
def EndS (B : Base) (O : Addr → Prop) (σ : St) (H : Hp) (ρ : Rho) (E : Ends) : Out → Prop
  | .nx ρ' => ∀ σ' H' O', Stp O σ H ρ O' σ' H' ρ' → Good B O' σ' H' ρ' → E.nx σ' H'
  | .rt d ρ' => ∀ v σ' H' O', Stp O σ H ρ O' σ' H' ρ' → Good B O' σ' H' ρ' → Rep B.O0 H' d v → E.rt v H'
def tS (B : Base) (F : Rho → Option Out) : TS := fun E σ H => ∃ O ρ r, Good B O σ H ρ ∧ F ρ = some r ∧ EndS B O σ H ρ E r
structure DS (X : Cx) (B : Base) (st : Stmt) (F : Rho → Option Out) : Prop where
  ps : PS X st (tS B F)
structure DSs (X : Cx) (B : Base) (st : List Stmt) (F : Rho → Option Out) : Prop where
  ps : PSs X st (tS B F)
section
variable {B : Base} {O O' O1 O2 : Addr → Prop} {σ σ1 σ2 : St} {H H' H1 H2 : Hp} {ρ ρ' ρ1 ρ2 : Rho}
theorem Keep.none {W : Addr → Prop} (k : Keep W H H') (hw : ∀ b, W b → ∃ vs, H b = some (.lst vs)) {b : Addr} (h : H' b = none) : H b = none := by
  cases e : H b with
  | none => rfl
  | some o => exact absurd h (k.ne hw (some_ne e))
theorem Good.none (g : Good B O σ H ρ) (k : Keep (Wof σ ρ) H H') {b : Addr} (h : H' b = Option.none) : H b = Option.none := k.none (fun b z => (g.wof z).2) h
theorem Stp.refl : Stp O σ H ρ O σ H ρ := ⟨.of (Same.refl H), fun _ h => .inl h, fun _ h => h, fun _ h => .inl h⟩
theorem Stp.ext (x : Ext B O σ H ρ H' ρ') : Stp O σ H ρ O σ H' ρ' := ⟨x.keep, fun _ h => .inl h, fun _ h => h, fun b h => .inl (x.w b h)⟩
theorem Stp.trans (g : Good B O σ H ρ) (a : Stp O σ H ρ O1 σ1 H1 ρ1) (b : Stp O1 σ1 H1 ρ1 O2 σ2 H2 ρ2) : Stp O σ H ρ O2 σ2 H2 ρ2 :=
  ⟨a.keep.trans b.keep a.w, fun c h => (b.out c h).elim (fun z => a.out c z) fun z => .inr (g.none a.keep z), fun c h => b.grow c (a.grow c h), fun c h => (b.w c h).elim (fun z => a.w c z) fun z => .inr (g.none a.keep z)⟩
theorem Stp.mv (g : Good B O σ H ρ) (a : Stp O σ H ρ O1 σ1 H1 ρ1) : Mv O H O1 H1 := g.mv a.keep a.out
theorem EndS.after {E : Ends} {r : Out} (g : Good B O σ H ρ) (a : Stp O σ H ρ O1 σ1 H1 ρ1) (q : EndS B O σ H ρ E r) : EndS B O1 σ1 H1 ρ1 E r := by
  cases r with
  | nx ρ' => exact fun σ' H' O' s gd => q σ' H' O' (a.trans g s) gd
  | rt d ρ' => exact fun v σ' H' O' s gd rp => q v σ' H' O' (a.trans g s) gd rp
theorem get_set_ne {α : Type} {l : List α} {i j : Nat} {x : α} (h : i ≠ j) : (l.set i x)[j]? = l[j]? := List.getElem?_set_ne h
/-- a slot gets a datum -/
theorem Good.set (g : Good B O σ H ρ) {i : Nat} {d : D} {v : V} (r : Rep O H d v) : Good B O (σ.set i (some v)) H (ρ.set i (.dat d)) ∧ ∀ b, Wof (σ.set i (some v)) (ρ.set i (.dat d)) b → Wof σ ρ b := by
  have hw : ∀ (j : Nat) s, (ρ.set i (.dat d))[j]? = some s → isOwn s = true → i ≠ j ∧ ρ[j]? = some s := fun j s e q => by
    by_cases hj : i = j
    · subst hj
      by_cases hl : i < ρ.length
      · rw [List.getElem?_set_self hl] at e; cases e; cases q
      · rw [List.getElem?_eq_none (by simpa using hl)] at e; cases e
    · exact ⟨hj, by rw [get_set_ne hj] at e; exact e⟩
  refine ⟨⟨by simp [g.len], g.frame, g.o0, g.r0, g.osub, g.otrk, g.h0, fun j s e => ?_, fun j k s t b e1 e2 q1 q2 e3 e4 => ?_⟩, fun b ⟨j, s, e, q, e3⟩ => ?_⟩
  · by_cases hj : i = j
    · subst hj
      have hl : i < ρ.length := by
        by_cases hl : i < ρ.length
        · exact hl
        · rw [List.getElem?_eq_none (by simpa using hl)] at e; cases e
      rw [List.getElem?_set_self hl] at e
      cases e
      rw [List.getElem?_set_self (by rw [g.len]; exact hl)]
      exact ⟨v, rfl, r⟩
    · rw [get_set_ne hj] at e
      rw [get_set_ne hj]
      exact g.slots j s e
  · obtain ⟨h1, k1⟩ := hw j s e1 q1
    obtain ⟨h2, k2⟩ := hw k t e2 q2
    rw [get_set_ne h1] at e3
    rw [get_set_ne h2] at e4
    exact g.sep j k s t b k1 k2 q1 q2 e3 e4
  · obtain ⟨h1, k1⟩ := hw j s e q
    rw [get_set_ne h1] at e3
    exact ⟨j, s, k1, q, e3⟩
/-- a slot gets a new list of its own -/
theorem Good.setOwn (g : Good B O σ H ρ) {i : Nat} {ds : List D} {a : Addr} {vs : List V} (s : Same H H') (ha : H a = Option.none) (ha' : H' a = some (.lst vs)) (r : RepL (fun b => O b ∨ b = a) H' ds vs) :
    Good B (fun b => O b ∨ b = a) (σ.set i (some (.ref a))) H' (ρ.set i (.own ds)) ∧ Stp O σ H ρ (fun b => O b ∨ b = a) (σ.set i (some (.ref a))) H' (ρ.set i (.own ds)) := by
  obtain ⟨n1, n2, n3⟩ := g.fresh ha
  have hout : ∀ b, (O b ∨ b = a) → O b ∨ H b = Option.none := fun b h => by
    rcases h with h | h
    · exact .inl h
    · exact .inr (by rw [h]; exact ha)
  have mv : Mv O H (fun b => O b ∨ b = a) H' := ⟨fun b o e _ => s b o e, hout⟩
  have hne : ∀ (j : Nat) t b, ρ[j]? = some t → isOwn t = true → σ[j]? = some (some (.ref b)) → b ≠ a := fun j t b e q e3 z => by
    obtain ⟨_, vs, h⟩ := g.wof ⟨j, t, e, q, e3⟩
    rw [z, ha] at h; cases h
  refine ⟨⟨by simp [g.len], fun b o e n => s b o (g.frame b o e n), g.o0, g.r0, fun b h => .inl (g.osub b h), fun b h => ?_, fun b h => s.ne (g.h0 b h), fun j t e => ?_, fun j k t u b e1 e2 q1 q2 e3 e4 => ?_⟩, ⟨.of s, hout, fun b h => .inl h, fun b ⟨j, t, e, q, e3⟩ => ?_⟩⟩
  · rcases h with h | h
    · exact s.ne (g.otrk b h)
    · rw [h]; exact some_ne ha'
  · by_cases hj : i = j
    · subst hj
      have hl : i < ρ.length := by
        by_cases hl : i < ρ.length
        · exact hl
        · rw [List.getElem?_eq_none (by simpa using hl)] at e; cases e
      rw [List.getElem?_set_self hl] at e
      cases e
      rw [List.getElem?_set_self (by rw [g.len]; exact hl)]
      exact ⟨a, vs, rfl, .inr rfl, n2, n3, ha', r⟩
    · rw [get_set_ne hj] at e
      rw [get_set_ne hj]
      have k := g.slots j t e
      cases t with
      | nil => trivial
      | dat d => exact SlOk.mv mv rfl k
      | own es => obtain ⟨b, us, e1, h1, h2, h3, h4, r4⟩ := k; exact ⟨b, us, e1, .inl h1, h2, h3, s b _ h4, RepL.mv mv _ _ r4⟩
      | bag es => obtain ⟨b, us, e1, h1, h2, h4, r4⟩ := k; exact ⟨b, us, e1, h1, .inl h2, s b _ h4, RepL.mv mv _ _ r4⟩
      | raw v => exact k
  · by_cases hj : i = j
    · by_cases hk : i = k
      · rw [← hj, ← hk]
      · subst hj
        rw [get_set_ne hk] at e2 e4
        have hl : i < ρ.length := by
          by_cases hl : i < ρ.length
          · exact hl
          · rw [List.getElem?_eq_none (by simpa using hl)] at e1; cases e1
        rw [List.getElem?_set_self (by rw [g.len]; exact hl)] at e3
        cases e3
        exact absurd rfl (hne k u _ e2 q2 e4)
    · by_cases hk : i = k
      · subst hk
        rw [get_set_ne hj] at e1 e3
        have hl : i < ρ.length := by
          by_cases hl : i < ρ.length
          · exact hl
          · rw [List.getElem?_eq_none (by simpa using hl)] at e2; cases e2
        rw [List.getElem?_set_self (by rw [g.len]; exact hl)] at e4
        cases e4
        exact absurd rfl (hne j t _ e1 q1 e3)
      · rw [get_set_ne hj] at e1 e3
        rw [get_set_ne hk] at e2 e4
        exact g.sep j k t u b e1 e2 q1 q2 e3 e4
  · by_cases hj : i = j
    · subst hj
      have hl : i < ρ.length := by
        by_cases hl : i < ρ.length
        · exact hl
        · rw [List.getElem?_eq_none (by simpa using hl)] at e; cases e
      rw [List.getElem?_set_self (by rw [g.len]; exact hl)] at e3
      cases e3
      exact .inr ha
    · rw [get_set_ne hj] at e e3
      exact .inl ⟨j, t, e, q, e3⟩
@[simp] def reOwn (t : Sl) (ds : List D) : Sl := match t with
  | .own _ => .own ds
  | .bag _ => .bag ds
  | s => s
@[simp] def ownOf : Sl → Option (List D)
  | .own ds => some ds
  | .bag ds => some ds
  | _ => none
/-- the list of a slot's own is changed -/
theorem Good.put (g : Good B O σ H ρ) {i : Nat} {t : Sl} {ds es : List D} {a : Addr} {ws : List V} (hi : ρ[i]? = some t) (ht : ownOf t = some es) (ha : σ[i]? = some (some (.ref a))) (s : ∀ b o, b ≠ a → H b = some o → H' b = some o) (ha' : H' a = some (.lst ws)) (r : RepL O H' ds ws) :
    Ext B O σ H ρ H' (ρ.set i (reOwn t ds)) := by
  have ho : isOwn t = true := by
    cases t with
    | nil => cases ht
    | dat _ => cases ht
    | own _ => rfl
    | bag _ => rfl
    | raw _ => cases ht
  have ho' : isOwn (reOwn t ds) = true := by
    cases t with
    | nil => cases ht
    | dat _ => cases ht
    | own _ => rfl
    | bag _ => rfl
    | raw _ => cases ht
  have hl : i < ρ.length := (List.getElem?_eq_some_iff.mp hi).1
  obtain ⟨oa, vs, va⟩ := g.wof ⟨i, t, hi, ho, ha⟩
  have kp : Keep (Wof σ ρ) H H' := ⟨fun b o e n => s b o (fun z => n ⟨i, t, hi, ho, by rw [z]; exact ha⟩) e, fun b us e => by
    by_cases hb : b = a
    · exact ⟨ws, by rw [hb]; exact ha'⟩
    · exact ⟨us, s b _ hb e⟩⟩
  have mv := g.mv (O' := O) kp fun _ h => .inl h
  have hw : ∀ (j : Nat) u, (ρ.set i (reOwn t ds))[j]? = some u → isOwn u = true → ∃ u', ρ[j]? = some u' ∧ isOwn u' = true := fun j u e q => by
    by_cases hj : i = j
    · subst hj; exact ⟨t, hi, ho⟩
    · rw [get_set_ne hj] at e; exact ⟨u, e, q⟩
  have gd : Good B O σ H' (ρ.set i (reOwn t ds)) := by
    refine ⟨by simp [g.len], fun b o e n => ?_, g.o0, g.r0, g.osub, fun b h => ?_, fun b h => ?_, fun j u e => ?_, fun j k u u' b e1 e2 q1 q2 e3 e4 => ?_⟩
    · refine s b o (fun z => ?_) (g.frame b o e n)
      subst z
      have k := g.slots i t hi
      cases t with
      | nil => cases ht
      | dat _ => cases ht
      | own _ => obtain ⟨b', us, e1, _, _, h3, _⟩ := k; rw [ha] at e1; cases e1; rw [h3] at e; cases e
      | bag _ => obtain ⟨b', us, e1, h1, _⟩ := k; rw [ha] at e1; cases e1; exact n h1
      | raw _ => cases ht
    · exact kp.ne (fun c z => (g.wof z).2) (g.otrk b h)
    · exact kp.ne (fun c z => (g.wof z).2) (g.h0 b h)
    · by_cases hj : i = j
      · subst hj
        rw [List.getElem?_set_self hl] at e
        cases e
        have k := g.slots i t hi
        cases t with
        | nil => cases ht
        | dat _ => cases ht
        | own _ => obtain ⟨b', us, e1, h1, h2, h3, _⟩ := k; rw [ha] at e1; cases e1; exact ⟨a, ws, ha, h1, h2, h3, ha', r⟩
        | bag _ => obtain ⟨b', us, e1, h1, h2, _⟩ := k; rw [ha] at e1; cases e1; exact ⟨a, ws, ha, h1, h2, ha', r⟩
        | raw _ => cases ht
      · rw [get_set_ne hj] at e
        have k := g.slots j u e
        cases u with
        | nil => trivial
        | dat d => exact SlOk.mv mv rfl k
        | own fs =>
          obtain ⟨b, us, e1, h1, h2, h3, h4, r4⟩ := k
          have hb : b ≠ a := fun z => hj (g.sep i j t _ b hi e ho rfl (by rw [z]; exact ha) e1)
          exact ⟨b, us, e1, h1, h2, h3, s b _ hb h4, RepL.mv mv _ _ r4⟩
        | bag fs =>
          obtain ⟨b, us, e1, h1, h2, h4, r4⟩ := k
          have hb : b ≠ a := fun z => hj (g.sep i j t _ b hi e ho rfl (by rw [z]; exact ha) e1)
          exact ⟨b, us, e1, h1, h2, s b _ hb h4, RepL.mv mv _ _ r4⟩
        | raw v => exact k
    · obtain ⟨x1, y1, z1⟩ := hw j u e1 q1
      obtain ⟨x2, y2, z2⟩ := hw k u' e2 q2
      exact g.sep j k x1 x2 b y1 y2 z1 z2 e3 e4
  refine ⟨kp, fun b ⟨j, u, e, q, e3⟩ => ?_, gd⟩
  obtain ⟨x1, y1, z1⟩ := hw j u e q
  exact ⟨j, x1, y1, z1, e3⟩
theorem Good.ownAt (g : Good B O σ H ρ) {i : Nat} {t : Sl} {es : List D} (hi : ρ[i]? = some t) (ht : ownOf t = some es) : ∃ a vs, σ[i]? = some (some (.ref a)) ∧ O a ∧ H a = some (.lst vs) ∧ RepL O H es vs := by
  have k := g.slots i t hi
  cases t with
  | nil => cases ht
  | dat _ => cases ht
  | own _ => cases ht; obtain ⟨b', us, e1, h1, h2, h3, h4, r⟩ := k; exact ⟨b', us, e1, h1, h4, r⟩
  | bag _ => cases ht; obtain ⟨b', us, e1, h1, h2, h4, r⟩ := k; exact ⟨b', us, e1, h2, h4, r⟩
  | raw _ => cases ht
end
/-! ### blocks -/
@[simp] def seqF (F G : Rho → Option Out) : Rho → Option Out := fun ρ => (F ρ).bind fun r => match r with
  | .nx ρ1 => G ρ1
  | .rt d ρ1 => some (.rt d ρ1)
@[simp] def skipF : Rho → Option Out := fun ρ => some (.nx ρ)
@[simp] def setF (i : Nat) (f : Rho → Option (D × Rho)) : Rho → Option Out := fun ρ => (f ρ).bind fun p => some (.nx (p.2.set i (.dat p.1)))
@[simp] def setP (i : Nat) (g : Rho → Option D) : Rho → Option Out := fun ρ => (g ρ).bind fun d => some (.nx (ρ.set i (.dat d)))
@[simp] def setO (i : Nat) (g : Rho → Option D) : Rho → Option Out := fun ρ => (g ρ).bind fun d => match d with
  | .list ds => some (.nx (ρ.set i (.own ds)))
  | _ => none
@[simp] def retP (g : Rho → Option D) : Rho → Option Out := fun ρ => (g ρ).bind fun d => some (.rt d ρ)
@[simp] def retE (f : Rho → Option (D × Rho)) : Rho → Option Out := fun ρ => (f ρ).bind fun p => some (.rt p.1 p.2)
@[simp] def dropE (f : Rho → Option (D × Rho)) : Rho → Option Out := fun ρ => (f ρ).bind fun p => some (.nx p.2)
@[simp] def iteF (c : Rho → Option (Bool × Rho)) (F G : Rho → Option Out) : Rho → Option Out := fun ρ => (c ρ).bind fun p => if p.1 = true then F p.2 else G p.2
@[simp] def neverF : Rho → Option Out := fun _ => none
@[simp] def appF (i : Nat) (g : Rho → Option D) : Rho → Option Out := fun ρ => (g ρ).bind fun d => (ρ[i]?).bind fun t => (ownOf t).bind fun es => if es.length < 100000 then some (.nx (ρ.set i (reOwn t (es ++ [d])))) else none
@[simp] def subF (i : Nat) (gk g : Rho → Option D) : Rho → Option Out := fun ρ => (g ρ).bind fun d => (gk ρ).bind fun k => (asInt k).bind fun k => (ρ[i]?).bind fun t => (ownOf t).bind fun es => (ixN es.length k).bind fun j => some (.nx (ρ.set i (reOwn t (es.set j d))))
@[simp] def drwE (i : Nat) (fs : Rho → Option (List D × Rho)) (F : List D → List D → Option (D × List D)) : Rho → Option (D × Rho) := fun ρ => (ρ[i]?).bind fun t0 => (ownOf t0).bind fun _ => (fs ρ).bind fun p => (p.2[i]?).bind fun t => (ownOf t).bind fun es => (F es p.1).bind fun q => some (q.1, p.2.set i (reOwn t q.2))
section
variable {X : Cx} {B : Base} {m : Md} {e : Expr} {es : List Expr} {st : Stmt} {sts tts : List Stmt} {F G : Rho → Option Out} {g gk : Rho → Option D} {f : Rho → Option (D × Rho)} {c : Rho → Option (Bool × Rho)} {pos p p' : Pos}
theorem ds_nil : DSs X B [] skipF := ⟨pss_nil.imp fun E σ H ⟨O, ρ, r, gd, e, q⟩ => by
  cases e
  exact q σ H O .refl gd⟩
theorem ds_cons (h : DS X B st F) (h2 : DSs X B sts G) : DSs X B (st :: sts) (seqF F G) := ⟨(pss_cons h.ps h2.ps).imp fun E σ H ⟨O, ρ, r, gd, e, q⟩ => by
  obtain ⟨r1, e1, e2⟩ := bind_some e
  refine ⟨O, ρ, r1, gd, e1, ?_⟩
  cases r1 with
  | nx ρ1 => exact fun σ1 H1 O1 s1 g1 => ⟨O1, ρ1, r, g1, e2, q.after gd s1⟩
  | rt d ρ1 => cases e2; exact q⟩
theorem ds_one (h : DS X B st F) : DSs X B [st] F := ⟨pss_one h.ps⟩
theorem ds_never : DS X B st neverF := ⟨⟨fun _ _ _ _ _ _ ⟨_, _, _, _, e, _⟩ => nomatch e⟩⟩
theorem ds_pass : DS X B (.Pass pos) skipF := ⟨ps_pass.imp fun E σ H ⟨O, ρ, r, gd, e, q⟩ => by
  cases e
  exact q σ H O .refl gd⟩
theorem ds_set {i : Nat} {x : Str} (hN : X.N.Nodup) (hi : X.N[i]? = some x) (hx : Loc X.env.scope x) (he : DE X B e f) (hs : swapsWith e (some (.Name x p')) pos.line X.env = pure false := by rfl) (hf : X.fn x = true ∨ X.env.scope.names.lookup x = some .local := by first | exact .inl rfl | exact .inr rfl | assumption) :
    DS X B (.Assign [.Name x p'] e pos) (setF i f) := ⟨(ps_set hN hi hx he.pe hs hf).imp fun E σ H ⟨O, ρ, r, gd, e, q⟩ => by
  obtain ⟨⟨d, ρ1⟩, e1, e2⟩ := bind_some e
  cases e2
  refine ⟨O, ρ, d, ρ1, gd, e1, fun v H1 s1 r1 => ?_⟩
  obtain ⟨g2, w2⟩ := s1.good.set (i := i) r1
  exact q _ H1 O ⟨s1.keep, fun _ h => .inl h, fun _ h => h, fun b h => .inl (s1.w b (w2 b h))⟩ g2⟩
theorem ds_setP {i : Nat} {x : Str} (hN : X.N.Nodup) (hi : X.N[i]? = some x) (hx : Loc X.env.scope x) (he : DP X B .str e g) (hs : swapsWith e (some (.Name x p')) pos.line X.env = pure false := by rfl) (hf : X.fn x = true ∨ X.env.scope.names.lookup x = some .local := by first | exact .inl rfl | exact .inr rfl | assumption) :
    DS X B (.Assign [.Name x p'] e pos) (setP i g) := ⟨(ps_set hN hi hx he.pe hs hf).imp fun E σ H ⟨O, ρ, r, gd, e, q⟩ => by
  obtain ⟨d, e1, e2⟩ := bind_some e
  cases e2
  refine ⟨O, ρ, d, gd, e1, fun v H1 s1 r1 => ?_⟩
  obtain ⟨g2, w2⟩ := (gd.same s1).set (i := i) r1
  exact q _ H1 O ⟨.of s1, fun _ h => .inl h, fun _ h => h, fun b h => .inl (w2 b h)⟩ g2⟩
theorem ds_ret (he : DP X B .bas e g) : DS X B (.Return (some e) pos) (retP g) := ⟨(ps_ret he.pe).imp fun E σ H ⟨O, ρ, r, gd, e, q⟩ => by
  obtain ⟨d, e1, e2⟩ := bind_some e
  cases e2
  exact ⟨O, ρ, d, gd, e1, fun v H1 s1 r1 => q v σ H1 O ⟨.of s1, fun _ h => .inl h, fun _ h => h, fun b h => .inl h⟩ (gd.same s1) r1⟩⟩
theorem ds_retE (he : DE X B e f) : DS X B (.Return (some e) pos) (retE f) := ⟨(ps_ret he.pe).imp fun E σ H ⟨O, ρ, r, gd, e, q⟩ => by
  obtain ⟨⟨d, ρ1⟩, e1, e2⟩ := bind_some e
  cases e2
  exact ⟨O, ρ, d, ρ1, gd, e1, fun v H1 s1 r1 => q v σ H1 O (.ext s1) s1.good (r1.less gd.osub)⟩⟩
theorem ds_expr (he : DE X B e f) (hs : swapsWith e none pos.line X.env = pure false := by rfl) : DS X B (.Expr e pos) (dropE f) := ⟨(ps_expr he.pe hs).imp fun E σ H ⟨O, ρ, r, gd, e, q⟩ => by
  obtain ⟨⟨d, ρ1⟩, e1, e2⟩ := bind_some e
  cases e2
  exact ⟨O, ρ, d, ρ1, gd, e1, fun v H1 s1 r1 => q σ H1 O (.ext s1) s1.good⟩⟩
theorem ds_if (hc : DET X B e c) (h1 : DSs X B sts F) (h2 : DSs X B tts G) : DS X B (.If e sts tts pos) (iteF c F G) := ⟨(ps_if hc.pt h1.ps h2.ps).imp fun E σ H ⟨O, ρ, r, gd, e, q⟩ => by
  obtain ⟨⟨k, ρ1⟩, e1, e2⟩ := bind_some e
  refine ⟨O, ρ, k, ρ1, gd, e1, fun H1 s1 => ?_⟩
  cases k with
  | true => exact ⟨O, ρ1, r, s1.good, e2, q.after gd (.ext s1)⟩
  | false => exact ⟨O, ρ1, r, s1.good, e2, q.after gd (.ext s1)⟩⟩
/-- x.append(e), x a name with a list of its own -/
theorem ds_app {i : Nat} {x : Str} {apos xpos cpos : Pos} (hN : X.N[i]? = some x) (he : DP X B .str e g) (hv : Vis X.env.scope x := by first | exact Or.inl rfl | exact Or.inr (Or.inl rfl) | exact Or.inr (Or.inr rfl)) (hd : (x == ("__debug__" : Str)) = false := by decide)
    (hcd : (x == ("__classdict__" : Str)) = false := by decide)
    (hpe : ∀ {to : TE} {t : TA}, PE X (.Name x xpos) to → PA X [e] t → PE X (.Call (.Attribute (.Name x xpos) "append" apos) [e] [] cpos) (tBM X.K "list" rAppend to t) := by
      intro to t h1 h2; exact pe_bm PySem.F.plainAttrs_list PySem.F.slot_list_append PySem.F.type_list_append mt_append h1 h2)
    (hs : swapsWith (.Call (.Attribute (.Name x xpos) "append" apos) [e] [] cpos) none pos.line X.env = pure false := by rfl) (hst : starEach [e] X.env = [(false, eval e X.env)] := by rfl) :
    DS X B (.Expr (.Call (.Attribute (.Name x xpos) "append" apos) [e] [] cpos) pos) (appF i g) := ⟨(ps_expr (hpe (pv i hN hv hd hcd) (pa_cons he.pe pa_nil hst)) hs).imp fun E σ H ⟨O, ρ, r, gd, e, q⟩ => by
  obtain ⟨d, e1, e2⟩ := bind_some e
  obtain ⟨t, e3, e4⟩ := bind_some e2
  obtain ⟨fs, e5, e6⟩ := bind_some e4
  split at e6
  · next hl =>
    cases e6
    obtain ⟨a, vs, h1, h2, h3, h4⟩ := gd.ownAt e3 e5
    refine ⟨_, h1, .inl ⟨rfl, vs, .of h3⟩, O, ρ, d, gd, e1, fun v H1 s1 r1 => ?_⟩
    refine ⟨a, vs, v, rfl, rfl, s1 a _ h3, ?_, ?_⟩
    · rw [← h4.length, sizeLine_eq]; omega
    · have g1 := gd.same s1
      have m2 : Mv O H1 O (upd H1 a (.lst (vs ++ [v]))) := ⟨fun b o e q => by
        rw [upd_ne]
        · exact e
        · rintro rfl
          rcases q with q | q
          · rw [s1 _ _ h3] at e; cases e; exact q vs rfl
          · exact q h2, fun _ h => .inl h⟩
      have x := g1.put (H' := upd H1 a (.lst (vs ++ [v]))) e3 e5 h1 (fun b o hb e => by rw [upd_ne hb]; exact e) upd_same (RepL.mv m2 _ _ ((h4.same s1).append (.one r1)))
      exact q σ _ O (.ext ((Ext.of gd s1).trans x)) x.good
  · cases e6⟩
/-- x[k] = e, x a name with a list of its own -/
theorem ds_sub {i : Nat} {x : Str} {k : Expr} {xpos spos : Pos} (hN : X.N[i]? = some x) (hk : DP X B .str k gk) (he : DP X B .str e g) (hv : Vis X.env.scope x := by first | exact Or.inl rfl | exact Or.inr (Or.inl rfl) | exact Or.inr (Or.inr rfl)) (hd : (x == ("__debug__" : Str)) = false := by decide)
    (hcd : (x == ("__classdict__" : Str)) = false := by decide)
    (hps : ∀ {to ti te : TE}, PE X (.Name x xpos) to → PE X k ti → PE X e te → PS X (.Assign [.Subscript (.Name x xpos) k spos] e pos) (tAsg te (gSub to ti rSetL)) := by
      intro to ti te h1 h2 h3; exact ps_asg h3 (pg_sub h1 h2 set_list)) :
    DS X B (.Assign [.Subscript (.Name x xpos) k spos] e pos) (subF i gk g) := ⟨(hps (pv i hN hv hd hcd) hk.pe he.pe).imp fun E σ H ⟨O, ρ, r, gd, e, q⟩ => by
  obtain ⟨d, e1, e2⟩ := bind_some e
  obtain ⟨kd, e3, e4⟩ := bind_some e2
  obtain ⟨n, e5, e6⟩ := bind_some e4
  obtain ⟨t, e7, e8⟩ := bind_some e6
  obtain ⟨fs, e9, e10⟩ := bind_some e8
  obtain ⟨j, e11, e12⟩ := bind_some e10
  cases e12
  have ek : kd = .int n := by
    unfold asInt at e5
    split at e5
    · cases e5; rfl
    · cases e5
  subst ek
  obtain ⟨a, vs, h1, h2, h3, h4⟩ := gd.ownAt e7 e9
  refine ⟨O, ρ, d, gd, e1, fun v H1 s1 r1 => ⟨_, h1, O, ρ, _, gd.same s1, e3, fun w H2 s2 r2 => ?_⟩⟩
  refine ⟨a, vs, n, j, rfl, rep_int.mp r2, s2 a _ (s1 a _ h3), by rw [← h4.length]; exact e11, ?_⟩
  have s12 := s1.trans s2
  have g1 := gd.same s12
  have m2 : Mv O H2 O (upd H2 a (.lst (vs.set j v))) := ⟨fun b o e q => by
    rw [upd_ne]
    · exact e
    · rintro rfl
      rcases q with q | q
      · rw [s12 _ _ h3] at e; cases e; exact q vs rfl
      · exact q h2, fun _ h => .inl h⟩
  have x := g1.put (H' := upd H2 a (.lst (vs.set j v))) e7 e9 h1 (fun b o hb e => by rw [upd_ne hb]; exact e) upd_same (RepL.mv m2 _ _ (RepL.set (r1.same s2) j (h4.same s12)))
  exact q σ _ O (.ext ((Ext.of gd s12).trans x)) x.good⟩
end
end DL

namespace DL
open PySem PySem.Spec
open PyProof.Rows hiding St
open L2
/-! ## targets -/
def tG (B : Base) (is : List Nat) (bind : D → Rho → Option Rho) : TG := fun v σ H Q => ∃ O ρ d ρ', Good B O σ H ρ ∧ Rep O H d v ∧ bind d ρ = some ρ' ∧
  ∀ σ', Good B O σ' H ρ' → (∀ b, Wof σ' ρ' b → Wof σ ρ b) → (∀ j, j ∉ is → σ'[j]? = σ[j]?) → σ'.length = σ.length → Q σ' H
def tGs (B : Base) (is : List Nat) (bind : List D → Rho → Option Rho) : TGs := fun vs σ H Q => ∃ O ρ ds ρ', Good B O σ H ρ ∧ RepL O H ds vs ∧ bind ds ρ = some ρ' ∧
  ∀ σ', Good B O σ' H ρ' → (∀ b, Wof σ' ρ' b → Wof σ ρ b) → (∀ j, j ∉ is → σ'[j]? = σ[j]?) → σ'.length = σ.length → Q σ' H
structure DG (X : Cx) (B : Base) (tg : Expr) (is : List Nat) (bind : D → Rho → Option Rho) : Prop where
  pg : PG X tg (tG B is bind)
structure DGs (X : Cx) (B : Base) (tgs : List Expr) (is : List Nat) (bind : List D → Rho → Option Rho) : Prop where
  pgs : PGs X tgs (tGs B is bind)
@[simp] def bName (i : Nat) : D → Rho → Option Rho := fun d ρ => some (ρ.set i (.dat d))
@[simp] def bNil : List D → Rho → Option Rho := fun ds ρ => match ds with
  | [] => some ρ
  | _ => none
@[simp] def bCons (b : D → Rho → Option Rho) (bs : List D → Rho → Option Rho) : List D → Rho → Option Rho := fun ds ρ => match ds with
  | d :: ds => (b d ρ).bind fun ρ1 => bs ds ρ1
  | [] => none
@[simp] def bTup (n : Nat) (bs : List D → Rho → Option Rho) : D → Rho → Option Rho := fun d ρ => match d with
  | .tuple ds => if ds.length = n then bs ds ρ else none
  | _ => none
theorem _root_.L2.PG.imp {X : Cx} {e : Expr} {t t' : TG} (h : PG X e t) (i : ∀ v σ H Q, t' v σ H Q → t v σ H Q) : PG X e t' := ⟨fun pins s σ H v u Q I r q => h.run pins s σ H v u Q I r (i v σ H Q q)⟩
theorem _root_.L2.PGs.imp {X : Cx} {e : List Expr} {t t' : TGs} (h : PGs X e t) (i : ∀ v σ H Q, t' v σ H Q → t v σ H Q) : PGs X e t' := ⟨fun pins s σ H v u Q I r q => h.run pins s σ H v u Q I r (i v σ H Q q)⟩
theorem _root_.L2.PI.imp {X : Cx} {tg e : Expr} {t t' : TI} (h : PI X tg e t) (i : ∀ σ H Q, t' σ H Q → t σ H Q) : PI X tg e t' := ⟨fun pins s σ H Q I q => h.run pins s σ H Q I (i σ H Q q)⟩
theorem _root_.L2.PI.or {X : Cx} {tg e : Expr} {t t' : TI} (h : PI X tg e t) (h' : PI X tg e t') : PI X tg e (fun σ H Q => t σ H Q ∨ t' σ H Q) := ⟨fun pins s σ H Q I q => q.elim (fun q => h.run pins s σ H Q I q) fun q => h'.run pins s σ H Q I q⟩
section
variable {X : Cx} {B : Base} {e : Expr} {es : List Expr} {is js : List Nat} {b : D → Rho → Option Rho} {bs : List D → Rho → Option Rho} {pos : Pos}
theorem dg_name {i : Nat} {x : Str} (hN : X.N.Nodup) (hi : X.N[i]? = some x) (hx : Loc X.env.scope x) (hf : X.fn x = true ∨ X.env.scope.names.lookup x = some .local := by first | exact .inl rfl | exact .inr rfl | assumption) : DG X B (.Name x pos) [i] (bName i) :=
  ⟨(pg_name hN hi hx hf).imp fun v σ H Q ⟨O, ρ, d, ρ', gd, r, e, q⟩ => by
    cases e
    obtain ⟨g2, w2⟩ := gd.set (i := i) r
    exact q _ g2 w2 (fun j hj => get_set_ne (fun z => hj (by simp [z]))) (by simp)⟩
theorem dgs_nil : DGs X B [] [] bNil := ⟨pgs_nil.imp fun vs σ H Q ⟨O, ρ, ds, ρ', gd, r, e, q⟩ => by
  unfold bNil at e
  split at e
  · cases e
    simp only [RepL] at r
    exact ⟨r, q σ gd (fun _ h => h) (fun _ _ => rfl) rfl⟩
  · cases e⟩
theorem dgs_cons (h : DG X B e is b) (h2 : DGs X B es js bs) (hs : (assignEach (e :: es) X.env).map (·.2) = assign e X.env :: (assignEach es X.env).map (·.2) := by rfl) : DGs X B (e :: es) (is ++ js) (bCons b bs) :=
  ⟨(pgs_cons h.pg h2.pgs hs).imp fun vs σ H Q ⟨O, ρ, ds, ρ', gd, r, e, q⟩ => by
    unfold bCons at e
    split at e
    · next d ds' =>
      obtain ⟨ρ1, e1, e2⟩ := bind_some e
      simp only [RepL] at r
      obtain ⟨v, ws, rfl, r1, r2⟩ := r
      refine ⟨v, ws, rfl, O, ρ, d, ρ1, gd, r1, e1, fun σ1 g1 w1 s1 l1 => ⟨O, ρ1, ds', ρ', g1, r2, e2, fun σ2 g2 w2 s2 l2 => ?_⟩⟩
      exact q σ2 g2 (fun c h => w1 c (w2 c h)) (fun j hj => by
        simp only [List.mem_append, not_or] at hj
        rw [s2 j hj.2, s1 j hj.1]) (l2.trans l1)
    · cases e⟩
theorem dg_tup {n : Nat} {k} (hc : X.calm = true) (h : DGs X B es is bs) (hn : (assignEach es X.env).length = n := by rfl) (hst : (assignEach es X.env).findIdx? (·.1) = none := by rfl) : DG X B (.Tuple es k pos) is (bTup n bs) :=
  ⟨(pg_tup hc h.pgs hn hst).imp fun v σ H Q ⟨O, ρ, d, ρ', gd, r, e, q⟩ => by
    unfold bTup at e
    split at e
    · next ds =>
      split at e
      · next hl =>
        simp only [Rep] at r
        obtain ⟨a, vs, rfl, ha, r⟩ := r
        exact ⟨a, vs, rfl, .of ha, by rw [← r.length]; exact hl, O, ρ, ds, ρ', gd, r, e, q⟩
      · cases e
    · cases e⟩
end
/-! ## what is walked -/
def Src (O : Addr → Prop) (H : Hp) (J : It) (ds : List D) : Prop := ∃ G : (Addr → Prop) → Hp → Prop, G O H ∧ (∀ O H O' H', Mv O H O' H' → G O H → G O' H') ∧ (∀ i O H, i < ds.length → G O H → J.go i H) ∧ (∀ O H, G O H → J.stop ds.length H) ∧
  ∀ i O H x H', i < ds.length → Otr O H → G O H → J.yld i H x H' → ∃ d, ds[i]? = some d ∧ Same H H' ∧ Rep O H' d x
def tIt (B : Base) (gs : Rho → Option (List D)) : TI := fun σ H R => ∃ O ρ ds, Good B O σ H ρ ∧ gs ρ = some ds ∧ ∀ J H', Same H H' → Src O H' J ds → R J H'
def tItE (B : Base) (fs : Rho → Option (List D × Rho)) : TI := fun σ H R => ∃ O ρ ds ρ', Good B O σ H ρ ∧ fs ρ = some (ds, ρ') ∧ ∀ J H', Ext B O σ H ρ H' ρ' → Src O H' J ds → R J H'
structure DI (X : Cx) (B : Base) (tg e : Expr) (gs : Rho → Option (List D)) : Prop where
  pi : PI X tg e (tIt B gs)
structure DIE (X : Cx) (B : Base) (tg e : Expr) (fs : Rho → Option (List D × Rho)) : Prop where
  pi : PI X tg e (tItE B fs)
@[simp] def seqD : D → Option (List D)
  | .list ds => some ds
  | .tuple ds => some ds
  | _ => none
@[simp] def itD (g : Rho → Option D) : Rho → Option (List D) := fun ρ => (g ρ).bind seqD
@[simp] def itE (f : Rho → Option (D × Rho)) : Rho → Option (List D × Rho) := fun ρ => (f ρ).bind fun p => (seqD p.1).bind fun ds => some (ds, p.2)
@[simp] def toI (gs : Rho → Option (List D)) : Rho → Option (List D × Rho) := fun ρ => (gs ρ).bind fun ds => some (ds, ρ)
def rngL (lo : Int) (n : Nat) : List D := (List.range n).map fun (i : Nat) => .int (lo + (i : Int))
def rng1S : List D → Option (List D)
  | [.int j] => if -(2 ^ 62) ≤ j ∧ j < 2 ^ 62 then some (rngL 0 j.toNat) else none
  | _ => none
def rng2S : List D → Option (List D)
  | [.int i, .int j] => if -(2 ^ 62) ≤ i ∧ i < 2 ^ 62 ∧ -(2 ^ 62) ≤ j ∧ j < 2 ^ 62 then some (rngL i (j - i).toNat) else none
  | _ => none
/-- not to be unfolded by the kernel: it would count down from the bound -/
noncomputable def rng1 : List D → Option (List D) := Classical.choose (⟨rng1S, rfl⟩ : ∃ f, f = rng1S)
noncomputable def rng2 : List D → Option (List D) := Classical.choose (⟨rng2S, rfl⟩ : ∃ f, f = rng2S)
theorem rng1_def : rng1 = rng1S := Classical.choose_spec (⟨rng1S, rfl⟩ : ∃ f, f = rng1S)
theorem rng2_def : rng2 = rng2S := Classical.choose_spec (⟨rng2S, rfl⟩ : ∃ f, f = rng2S)
@[simp] def nI (gs : Rho → Option (List D)) (F : List D → Option (List D)) : Rho → Option (List D) := fun ρ => (gs ρ).bind F
@[simp] def nIE (fs : Rho → Option (List D × Rho)) (F : List D → Option (List D)) : Rho → Option (List D × Rho) := fun ρ => (fs ρ).bind fun p => (F p.1).bind fun ds => some (ds, p.2)
theorem src_list {K : PySem.W.Frag} {O : Addr → Prop} {H : Hp} {a : Addr} {vs : List V} {ds : List D} (no : ¬ O a) (ha : H a = some (.lst vs)) (r : RepL O H ds vs) : Src O H (Itl K a) ds := by
  refine ⟨fun O H => ¬ O a ∧ H a = some (.lst vs) ∧ RepL O H ds vs, ⟨no, ha, r⟩, fun O H O' H' m ⟨h1, h2, h3⟩ => ⟨fun z => ?_, m.keep a _ h2 (.inr h1), RepL.mv m _ _ h3⟩, fun i O H hi ⟨h1, h2, h3⟩ => ?_, fun O H ⟨h1, h2, h3⟩ => ?_, fun i O H x H' hi _ ⟨h1, h2, h3⟩ y => ?_⟩
  · rcases m.out a z with q | q
    · exact h1 q
    · rw [h2] at q; cases q
  · have hl := h3.length
    exact ⟨vs, vs[i], .of h2, by simp [← hl, hi]⟩
  · exact ⟨vs, .of h2, by rw [h3.length]; exact Nat.le_refl _⟩
  · obtain ⟨e, y⟩ := y
    subst e
    obtain ⟨d, e1, r1⟩ := h3.getV (y vs (.of h2))
    exact ⟨d, e1, Same.refl _, r1⟩
theorem src_tup {K : PySem.W.Frag} {O : Addr → Prop} {H : Hp} {a : Addr} {vs : List V} {ds : List D} (ha : H a = some (.tup vs)) (r : RepL O H ds vs) : Src O H (Itt K a) ds := by
  refine ⟨fun O H => H a = some (.tup vs) ∧ RepL O H ds vs, ⟨ha, r⟩, fun O H O' H' m ⟨h2, h3⟩ => ⟨m.keep a _ h2 (.inl fun us z => by cases z), RepL.mv m _ _ h3⟩, fun i O H hi ⟨h2, h3⟩ => ?_, fun O H ⟨h2, h3⟩ => ?_, fun i O H x H' hi _ ⟨h2, h3⟩ y => ?_⟩
  · have hl := h3.length
    exact ⟨vs, vs[i], .of h2, by simp [← hl, hi]⟩
  · exact ⟨vs, .of h2, by rw [h3.length]; exact Nat.le_refl _⟩
  · obtain ⟨e, y⟩ := y
    subst e
    obtain ⟨d, e1, r1⟩ := h3.getV (y vs (.of h2))
    exact ⟨d, e1, Same.refl _, r1⟩
theorem src_rng {O : Addr → Prop} {H : Hp} {lo : Int} {n : Nat} : Src O H (Itr lo n) (rngL lo n) := by
  refine ⟨fun _ _ => True, trivial, fun _ _ _ _ _ _ => trivial, fun i O H hi _ => ?_, fun O H _ => ?_, fun i O H x H' hi _ _ y => ?_⟩
  · show i < n
    simpa [rngL] using hi
  · show n ≤ _
    simp [rngL]
  · obtain ⟨e, y⟩ := y
    subst e y
    refine ⟨.int (lo + i), ?_, Same.refl _, rep_int.mpr rfl⟩
    have hi' : i < n := by simpa [rngL] using hi
    simp [rngL, hi']
section
variable {X : Cx} {B : Base} {tg e : Expr} {es : List Expr} {g : Rho → Option D} {f : Rho → Option (D × Rho)} {gs : Rho → Option (List D)} {fs : Rho → Option (List D × Rho)} {pos p : Pos}
theorem di_seq (h : DP X B .str e g) : DI X B tg e (itD g) := ⟨((pi_list h.pe).or (pi_tup h.pe)).imp fun σ H R ⟨O, ρ, ds, gd, e, q⟩ => by
  obtain ⟨d, e1, e2⟩ := bind_some e
  unfold seqD at e2
  split at e2
  · cases e2
    refine .inl ⟨O, ρ, _, gd, e1, fun v H1 s1 r1 => ?_⟩
    simp only [Rep] at r1
    obtain ⟨a, vs, rfl, no, ha, r⟩ := r1
    exact ⟨a, rfl, ⟨vs, .of ha⟩, q _ H1 s1 (src_list no ha r)⟩
  · cases e2
    refine .inr ⟨O, ρ, _, gd, e1, fun v H1 s1 r1 => ?_⟩
    simp only [Rep] at r1
    obtain ⟨a, vs, rfl, ha, r⟩ := r1
    exact ⟨a, rfl, ⟨vs, .of ha⟩, q _ H1 s1 (src_tup ha r)⟩
  · cases e2⟩
theorem die_seq (h : DE X B e f) : DIE X B tg e (itE f) := ⟨((pi_list h.pe).or (pi_tup h.pe)).imp fun σ H R ⟨O, ρ, ds, ρ', gd, e, q⟩ => by
  obtain ⟨⟨d, ρ1⟩, e1, e2⟩ := bind_some e
  obtain ⟨es, e3, e4⟩ := bind_some e2
  cases e4
  unfold seqD at e3
  split at e3
  · next he =>
    cases e3
    have he' : d = .list _ := he
    subst he'
    refine .inl ⟨O, ρ, _, _, gd, e1, fun v H1 s1 r1 => ?_⟩
    simp only [Rep] at r1
    obtain ⟨a, vs, rfl, no, ha, r⟩ := r1
    exact ⟨a, rfl, ⟨vs, .of ha⟩, q _ H1 s1 (src_list no ha r)⟩
  · next he =>
    cases e3
    have he' : d = .tuple _ := he
    subst he'
    refine .inr ⟨O, ρ, _, _, gd, e1, fun v H1 s1 r1 => ?_⟩
    simp only [Rep] at r1
    obtain ⟨a, vs, rfl, ha, r⟩ := r1
    exact ⟨a, rfl, ⟨vs, .of ha⟩, q _ H1 s1 (src_tup ha r)⟩
  · cases e3⟩
theorem die_of (h : DI X B tg e gs) : DIE X B tg e (toI gs) := ⟨h.pi.imp fun σ H R ⟨O, ρ, ds, ρ', gd, e, q⟩ => by
  obtain ⟨es, e1, e2⟩ := bind_some e
  cases e2
  exact ⟨O, ρ, _, gd, e1, fun J H1 s1 sr => q J H1 (.of gd s1) sr⟩⟩
theorem di_rng1 (hm : X.mg "range" = none) (ha : DPA X B .str [e] gs) (hg : Gl X "range" := by rfl) (hs : starEach [e] X.env = [(false, eval e X.env)] := by rfl) : DI X B tg (.Call (.Name "range" p) [e] [] pos) (nI gs rng1) := ⟨(pi_range1 hg hm ha.pa hs).imp fun σ H R ⟨O, ρ, ds, gd, e, q⟩ => by
  obtain ⟨es, e1, e2⟩ := bind_some e
  rw [rng1_def] at e2
  unfold rng1S at e2
  split at e2
  · split at e2
    · next hb =>
      cases e2
      refine ⟨O, ρ, _, gd, e1, fun vs H1 s1 r1 => ?_⟩
      simp only [RepL, rep_int] at r1
      obtain ⟨v, ws, rfl, rfl, rfl⟩ := r1
      exact ⟨_, rfl, hb.1, hb.2, q _ H1 s1 src_rng⟩
    · cases e2
  · cases e2⟩
theorem die_rng1 (hm : X.mg "range" = none) (ha : DEA X B [e] fs) (hg : Gl X "range" := by rfl) (hs : starEach [e] X.env = [(false, eval e X.env)] := by rfl) : DIE X B tg (.Call (.Name "range" p) [e] [] pos) (nIE fs rng1) := ⟨(pi_range1 hg hm ha.pa hs).imp fun σ H R ⟨O, ρ, ds, ρ', gd, e, q⟩ => by
  obtain ⟨⟨es, ρ1⟩, e1, e2⟩ := bind_some e
  obtain ⟨fs, e3, e4⟩ := bind_some e2
  cases e4
  rw [rng1_def] at e3
  unfold rng1S at e3
  split at e3
  · next he =>
    have he' : es = _ := he
    subst he'
    split at e3
    · next hb =>
      cases e3
      refine ⟨O, ρ, _, _, gd, e1, fun vs H1 s1 r1 => ?_⟩
      simp only [RepL, rep_int] at r1
      obtain ⟨v, ws, rfl, rfl, rfl⟩ := r1
      exact ⟨_, rfl, hb.1, hb.2, q _ H1 s1 src_rng⟩
    · cases e3
  · cases e3⟩
theorem di_rng2 {e2 : Expr} (hm : X.mg "range" = none) (ha : DPA X B .str [e, e2] gs) (hg : Gl X "range" := by rfl) (hs : starEach [e, e2] X.env = [(false, eval e X.env), (false, eval e2 X.env)] := by rfl) (hs2 : starEach [e2] X.env = [(false, eval e2 X.env)] := by rfl) :
    DI X B tg (.Call (.Name "range" p) [e, e2] [] pos) (nI gs rng2) := ⟨(pi_range2 hg hm ha.pa hs hs2).imp fun σ H R ⟨O, ρ, ds, gd, e, q⟩ => by
  obtain ⟨es, e1, e2⟩ := bind_some e
  rw [rng2_def] at e2
  unfold rng2S at e2
  split at e2
  · split at e2
    · next hb =>
      cases e2
      refine ⟨O, ρ, _, gd, e1, fun vs H1 s1 r1 => ?_⟩
      simp only [RepL, rep_int] at r1
      obtain ⟨v, ws, rfl, rfl, v2, ws2, rfl, rfl, rfl⟩ := r1
      exact ⟨_, _, rfl, hb, q _ H1 s1 src_rng⟩
    · cases e2
  · cases e2⟩
end
/-! ## for -/
@[simp] def forL (b : D → Rho → Option Rho) (F : Rho → Option Out) : List D → Rho → Option Out
  | [], ρ => some (.nx ρ)
  | d :: ds, ρ => (b d ρ).bind fun ρ1 => (F ρ1).bind fun r => match r with
    | .nx ρ2 => forL b F ds ρ2
    | .rt z ρ2 => some (.rt z ρ2)
@[simp] def forF (fs : Rho → Option (List D × Rho)) (b : D → Rho → Option Rho) (F : Rho → Option Out) : Rho → Option Out := fun ρ => (fs ρ).bind fun p => forL b F p.1 p.2
def whlL (c : Rho → Option (Bool × Rho)) (F : Rho → Option Out) : Nat → Rho → Option Out
  | 0, _ => none
  | n + 1, ρ => (c ρ).bind fun p => if p.1 = true then (F p.2).bind fun r => (match r with
    | .nx ρ2 => whlL c F n ρ2
    | .rt z ρ2 => some (.rt z ρ2)) else some (.nx p.2)
section
variable {X : Cx} {B : Base} {tg e : Expr} {sts : List Stmt} {is : List Nat} {b : D → Rho → Option Rho} {F : Rho → Option Out} {c : Rho → Option (Bool × Rho)} {fs : Rho → Option (List D × Rho)} {pos p : Pos}
theorem ds_for (hp : PassesOwn (model X.prog X.w) X.A X.env X.xe) (hc : X.calm = true) (hi : DIE X B tg e fs) (hg : DG X B tg is b) (hb : DSs X B sts F) (hs : ∀ x, foldedSetIterable e X.env x = pure x := by intro _; rfl) : DS X B (.For tg e sts [] pos) (forF fs b F) :=
  ⟨(ps_for hp hc hi.pi hg.pg hb.ps hs).imp fun E σ H ⟨O, ρ, r, gd, e, q⟩ => by
    obtain ⟨⟨ds, ρ0⟩, e1, e2⟩ := bind_some e
    refine ⟨O, ρ, ds, ρ0, gd, e1, fun J H0 x0 ⟨G, g0, gm, ggo, gst, gy⟩ => ?_⟩
    refine ⟨fun i m σi Hi => m = ds.length - i ∧ i ≤ ds.length ∧ ∃ Oi ρi, Good B Oi σi Hi ρi ∧ Stp O σ H ρ Oi σi Hi ρi ∧ G Oi Hi ∧ forL b F (ds.drop i) ρi = some r, ⟨ds.length, by simp, Nat.zero_le _, O, ρ0, x0.good, .ext x0, g0, by simpa using e2⟩, ?_⟩
    rintro i m σi Hi ⟨rfl, hi, Oi, ρi, gi, si, Gi, ei⟩
    by_cases hlt : i < ds.length
    · have ed : ds.drop i = ds[i] :: ds.drop (i + 1) := List.drop_eq_getElem_cons hlt
      rw [ed] at ei
      obtain ⟨ρ1, e3, e4⟩ := bind_some ei
      obtain ⟨r1, e5, e6⟩ := bind_some e4
      refine .inr ⟨ggo i Oi Hi hlt Gi, fun σ' H' => i + 1 ≤ ds.length ∧ ∃ O' ρ', Good B O' σ' H' ρ' ∧ Stp O σ H ρ O' σ' H' ρ' ∧ G O' H' ∧ forL b F (ds.drop (i + 1)) ρ' = some r, fun σ' H' ⟨h1, h2⟩ => ⟨ds.length - (i + 1), by omega, rfl, h1, h2⟩, fun x H1 y => ?_⟩
      obtain ⟨d, ed2, s1, rx⟩ := gy i Oi Hi x H1 hlt gi.otrk Gi y
      have ed3 : ds[i] = d := by
        rw [List.getElem?_eq_getElem hlt] at ed2
        exact Option.some.inj ed2
      subst ed3
      refine ⟨Oi, ρi, _, ρ1, gi.same s1, rx, e3, fun σ2 g2 w2 _ _ => ⟨Oi, ρ1, r1, g2, e5, ?_⟩⟩
      have st2 : Stp O σ H ρ Oi σ2 H1 ρ1 := si.trans gd ⟨.of s1, fun _ h => .inl h, fun _ h => h, fun b h => .inl (w2 b h)⟩
      cases r1 with
      | nx ρ2 =>
        exact fun σ' H' O' s3 g3 => ⟨hlt, O', ρ2, g3, st2.trans gd s3, gm _ _ _ _ (s3.mv g2) (gm _ _ _ _ (.same s1) Gi), e6⟩
      | rt z ρ2 =>
        cases e6
        exact fun v σ' H' O' s3 g3 r3 => q v σ' H' O' (st2.trans gd s3) g3 r3
    · have en : i = ds.length := by omega
      subst en
      rw [List.drop_length] at ei
      cases ei
      exact .inl ⟨gst Oi Hi Gi, q σi Hi Oi si gi⟩⟩
theorem ds_while {n : Nat} (hp : PassesOwn (model X.prog X.w) X.A X.env X.xe) (hc : DET X B e c) (hb : DSs X B sts F) : DS X B (.While e sts [] pos) (whlL c F n) :=
  ⟨(ps_while hp hc.pt hb.ps).imp fun E σ H ⟨O, ρ, r, gd, e, q⟩ => by
    refine ⟨fun m σi Hi => ∃ Oi ρi, Good B Oi σi Hi ρi ∧ Stp O σ H ρ Oi σi Hi ρi ∧ whlL c F m ρi = some r, ⟨n, O, ρ, gd, .refl, e⟩, ?_⟩
    rintro m σi Hi ⟨Oi, ρi, gi, si, ei⟩
    cases m with
    | zero => cases ei
    | succ m =>
      obtain ⟨⟨k, ρ1⟩, e1, e2⟩ := bind_some ei
      refine ⟨Oi, ρi, k, ρ1, gi, e1, fun H1 x1 => ?_⟩
      cases k with
      | false =>
        cases e2
        exact q σi H1 Oi (si.trans gd (.ext x1)) x1.good
      | true =>
        obtain ⟨r1, e3, e4⟩ := bind_some e2
        refine ⟨fun σ' H' => ∃ O' ρ', Good B O' σ' H' ρ' ∧ Stp O σ H ρ O' σ' H' ρ' ∧ whlL c F m ρ' = some r, fun σ' H' h => ⟨m, Nat.lt_succ_self m, h⟩, Oi, ρ1, r1, x1.good, e3, ?_⟩
        have st1 := si.trans gd (.ext x1)
        cases r1 with
        | nx ρ2 => exact fun σ' H' O' s3 g3 => ⟨O', ρ2, g3, st1.trans gd s3, e4⟩
        | rt z ρ2 =>
          cases e4
          exact fun v σ' H' O' s3 g3 r3 => q v σ' H' O' (st1.trans gd s3) g3 r3⟩
end
end DL

namespace DL
open PySem PySem.Spec
open PyProof.Rows hiding St
open L2
/-! ## defs by their bodies -/
@[simp] def startR (tot : Nat) (ds : List D) : Rho := ds.map Sl.dat ++ List.replicate (tot - ds.length) Sl.nil
@[simp] def runF (n tot : Nat) (b : Rho → Option Out) : List D → Option D := fun ds => if ds.length = n then (b (startR tot ds)).bind fun r => (match r with
  | .rt d _ => some d
  | .nx _ => some .none) else none
@[simp] def bagOf : Option Sl → Option (List D)
  | some (.bag bs) => some bs
  | _ => none
@[simp] def runB (n tot : Nat) (b : Rho → Option Out) : List D → List D → Option (D × List D) := fun bs ds => if ds.length = n then (b (.bag bs :: startR (tot - 1) ds)).bind fun r => (match r with
  | .rt d ρ => (bagOf ρ[0]?).bind fun bs' => some (d, bs')
  | .nx ρ => (bagOf ρ[0]?).bind fun bs' => some (.none, bs')) else none
def spB (F : List D → List D → Option (D × List D)) : Sp := fun vs H Q _ => ∃ b ws, vs = V.ref b :: ws ∧ ∃ O us bs ds r bs', Otr O H ∧ O b ∧ H b = some (.lst us) ∧ RepL O H bs us ∧ RepL O H ds ws ∧ F bs ds = some (r, bs') ∧
  ∀ v H' us', (∀ c o, c ≠ b → H c = some o → H' c = some o) → H' b = some (.lst us') → RepL O H' bs' us' → Rep O H' r v → Q v H'
structure BFn (P : Program) (w : World) (K : PySem.W.Frag) (mg : Str → Option Value) (base : Heap) (k : Nat) (x : Str) (F : List D → List D → Option (D × List D)) : Prop where
  ex : ∃ f fd ps, FnOk P w K mg base CX0 k f fd ps (spB F) ∧ mg x = some (.ref f) ∧ PySem.W.keepIn K (.ref f) = true ∧ Binds K fd ps []
theorem start_get {O : Addr → Prop} {H : Hp} {tot : Nat} {ds : List D} {vs : List V} (r : RepL O H ds vs) (N : List Str) (hN : N.length = tot) {i : Nat} {s : Sl} (e : (startR tot ds)[i]? = some s) : (∃ d, s = .dat d ∧ ∃ v, (L2.start N vs)[i]? = some (some v) ∧ Rep O H d v) ∨ s = .nil := by
  unfold startR at e
  by_cases hi : i < ds.length
  · left
    rw [List.getElem?_append_left (by simpa using hi), List.getElem?_map, List.getElem?_eq_getElem hi] at e
    cases e
    obtain ⟨v, e1, r1⟩ := r.get (List.getElem?_eq_getElem hi)
    refine ⟨_, rfl, v, ?_, r1⟩
    unfold L2.start
    have hl := r.length
    rw [List.getElem?_append_left (by simp; omega), List.getElem?_map, e1]
    rfl
  · right
    rw [List.getElem?_append_right (by simpa using hi), List.getElem?_replicate] at e
    split at e
    · cases e; rfl
    · cases e
section
variable {P : Program} {w : World} {K : PySem.W.Frag} {mg : Str → Option Value} {base : Heap}
theorem good_start {O : Addr → Prop} {H : Hp} {tot : Nat} {ds : List D} {vs : List V} {N : List Str} (t : Otr O H) (r : RepL O H ds vs) (hN : N.length = tot) (hl : ds.length ≤ tot) : Good ⟨H, O, fun _ => False⟩ O (L2.start N vs) H (startR tot ds) := by
  have hv := r.length
  have no : ∀ (i : Nat) s, (startR tot ds)[i]? = some s → isOwn s = false := fun i s e => by
    rcases start_get r N hN e with ⟨d, rfl, _⟩ | rfl
    · rfl
    · rfl
  refine ⟨by unfold L2.start startR; simp; omega, fun _ _ e _ => e, t, fun _ h => h.elim, fun _ h => h, t, fun _ h => h, fun i s e => ?_, fun i j s t b e1 _ q _ _ _ => by rw [no i s e1] at q; cases q⟩
  rcases start_get r N hN e with ⟨d, rfl, v, h1, h2⟩ | rfl
  · exact ⟨v, h1, h2⟩
  · trivial
theorem fn_mk {x : Str} {st : Stmt} {f : Addr} {fd : FuncData} {N ps : List Str} {k n tot : Nat} {b : Rho → Option Out} (F : L2.Fun K x x st f fd) (S : FnScope N ps (defScope st)) (bi : Binds K fd ps []) (hm : mg x = some (.ref f)) (hN : N.length = tot) (hn : ps.length = n)
    (hb : ∀ (B : Base) (cdv : Value) (A : Around) (outer : List PySem.Env) (s : Shared) (H : Hp) (E : XK), Room k (A.deeper (envOfC x (defScope st) s.heap.objs.size f cdv)) → DSs (cxOf CX0 P w K mg base N x (defScope st) f cdv A outer s H E).nox B (defBody st) b) :
    Fn P w K mg base (k + 1) x (runF n tot b) := by
  have hpl : ps.length ≤ N.length := by have := congrArg List.length S.pre; rw [List.length_take] at this; omega
  refine ⟨f, fd, ps, F.ok S (fun vs H Q E h => ?_) (fun cdv A outer s H vs Q E hr h => ?_), hm, F.kp, bi⟩
  · obtain ⟨O, ds, d, t, r, e, q⟩ := h
    unfold runF at e
    split at e
    · next hl => rw [← r.length, hl, hn]
    · cases e
  · obtain ⟨O, ds, d, t, r, e, q⟩ := h
    unfold runF at e
    split at e
    · next hl =>
      obtain ⟨o, e1, e2⟩ := bind_some e
      refine ⟨_, (hb ⟨H, O, fun _ => False⟩ cdv A outer s H E hr).ps, O, startR tot ds, o, good_start t r hN (by omega), e1, ?_⟩
      cases o with
      | nx ρ' =>
        cases e2
        exact fun σ' H' O' s3 g3 => q _ H' (fun b o e => g3.frame b o e fun z => z) (rep_none.mpr rfl)
      | rt z ρ' =>
        cases e2
        exact fun v σ' H' O' s3 g3 r3 => q v H' (fun b o e => g3.frame b o e fun z => z) r3
    · cases e
theorem bfn_mk {x : Str} {st : Stmt} {f : Addr} {fd : FuncData} {N ps : List Str} {k n tot : Nat} {b : Rho → Option Out} (F : L2.Fun K x x st f fd) (S : FnScope N ps (defScope st)) (bi : Binds K fd ps []) (hm : mg x = some (.ref f)) (hN : N.length = tot) (hn : ps.length = n + 1)
    (hb : ∀ (B : Base) (cdv : Value) (A : Around) (outer : List PySem.Env) (s : Shared) (H : Hp) (E : XK), Room k (A.deeper (envOfC x (defScope st) s.heap.objs.size f cdv)) → DSs (cxOf CX0 P w K mg base N x (defScope st) f cdv A outer s H E).nox B (defBody st) b) :
    BFn P w K mg base (k + 1) x (runB n tot b) := by
  have hpl : ps.length ≤ N.length := by have := congrArg List.length S.pre; rw [List.length_take] at this; omega
  refine ⟨f, fd, ps, F.ok S (fun vs H Q E h => ?_) (fun cdv A outer s H vs Q E hr h => ?_), hm, F.kp, bi⟩
  · obtain ⟨a, ws, rfl, O, us, bs, ds, d, bs', t, oa, ha, rb, r, e, q⟩ := h
    unfold runB at e
    split at e
    · next hl => rw [List.length_cons, ← r.length, hl, hn]
    · cases e
  · obtain ⟨a, ws, rfl, O, us, bs, ds, d, bs', t, oa, ha, rb, r, e, q⟩ := h
    unfold runB at e
    split at e
    · next hl =>
      obtain ⟨o, e1, e2⟩ := bind_some e
      obtain ⟨y, N', rfl⟩ : ∃ y N', N = y :: N' := by
        cases N with
        | nil => rw [hn] at hpl; simp at hpl
        | cons y N' => exact ⟨y, N', rfl⟩
      have hN' : N'.length = tot - 1 := by rw [List.length_cons] at hN; omega
      have hst : L2.start (y :: N') (.ref a :: ws) = some (.ref a) :: L2.start N' ws := by
        unfold L2.start
        simp
      have g1 := good_start (N := N') t r hN' (by rw [List.length_cons] at hpl; omega)
      have gd : Good ⟨H, O, fun b => b = a⟩ O (L2.start (y :: N') (.ref a :: ws)) H (.bag bs :: startR (tot - 1) ds) := by
        rw [hst]
        have no : ∀ (i : Nat) s, (startR (tot - 1) ds)[i]? = some s → isOwn s = false := fun i s e => by
          rcases start_get r N' hN' e with ⟨d, rfl, _⟩ | rfl
          · rfl
          · rfl
        refine ⟨by simp [g1.len], fun _ _ e _ => e, t, fun b h => by rw [show b = a from h]; exact oa, fun _ h => h, t, fun _ h => h, fun i s e => ?_, fun i j s t b e1 e2 q1 q2 _ _ => ?_⟩
        · cases i with
          | zero =>
            simp at e; subst e
            exact ⟨a, us, rfl, rfl, oa, ha, rb⟩
          | succ i =>
            have k := g1.slots i s (by simpa using e)
            have e' : (startR (tot - 1) ds)[i]? = some s := by simpa using e
            rcases start_get r N' hN' e' with ⟨d, rfl, v, h1, h2⟩ | rfl
            · exact ⟨v, by simpa using h1, h2⟩
            · trivial
        · cases i with
          | zero =>
            cases j with
            | zero => rfl
            | succ j => rw [no j t (by simpa using e2)] at q2; cases q2
          | succ i => rw [no i s (by simpa using e1)] at q1; cases q1
      refine ⟨_, (hb ⟨H, O, fun b => b = a⟩ cdv A outer s H E hr).ps, O, _, o, gd, e1, ?_⟩
      have fin : ∀ {ρ' : Rho} {σ' : St} {H' : Hp} {O' : Addr → Prop} {z : D} {v : V} {cs : List D}, bagOf ρ'[0]? = some cs → Good ⟨H, O, fun b => b = a⟩ O' σ' H' ρ' → (z, cs) = (d, bs') → Rep O H' z v → Q v H' := fun {ρ' σ' H' O' z v cs} e3 g3 e4 r3 => by
        cases e4
        unfold bagOf at e3
        split at e3
        · next e5 =>
          cases e3
          obtain ⟨a', us', h1, h2, h3, h4, h5⟩ := g3.slots 0 _ e5
          cases (show a' = a from h2)
          exact q v H' us' (fun c o hc e => g3.frame c o e hc) h4 (h5.less g3.osub) r3
        · cases e3
      cases o with
      | nx ρ' =>
        obtain ⟨cs, e3, e4⟩ := bind_some e2
        exact fun σ' H' O' s3 g3 => fin e3 g3 (Option.some.inj e4) (rep_none.mpr rfl)
      | rt z ρ' =>
        obtain ⟨cs, e3, e4⟩ := bind_some e2
        exact fun v σ' H' O' s3 g3 r3 => fin e3 g3 (Option.some.inj e4) r3
    · cases e
end
/-! ## a call that draws -/
section
variable {X : Cx} {B : Base} {m : Md} {a b c e : Expr} {es : List Expr} {g ga gb : Rho → Option D} {f : Rho → Option (D × Rho)} {gs : Rho → Option (List D)} {fs : Rho → Option (List D × Rho)} {pos p p' : Pos}
theorem de_drw {x y : Str} {i k j : Nat} {F : List D → List D → Option (D × List D)} (hF : BFn X.prog X.w X.K X.mg X.base k x F) (hr : Room j X.A) (hk : k ≤ j) (hN : X.N[i]? = some y) (ha : DEA X B es fs) (hg : Gl X x := by rfl) (hdb : (x == ("__debug__" : Str)) = false := by decide)
    (hv : Vis X.env.scope y := by first | exact Or.inl rfl | exact Or.inr (Or.inl rfl) | exact Or.inr (Or.inr rfl)) (hd : (y == ("__debug__" : Str)) = false := by decide) (hcd : (y == ("__classdict__" : Str)) = false := by decide)
    (he : starEach (.Name y p' :: es) X.env = (false, eval (.Name y p') X.env) :: starEach es X.env := by rfl) (hpl : (backTo pos (starEach es X.env)).any (·.1) = false := by rfl) : DE X B (.Call (.Name x p) (.Name y p' :: es) [] pos) (drwE i fs F) := by
  obtain ⟨fa, fd, ps, G, hm, kp, bi⟩ := hF.ex
  refine ⟨(pe_call G (hr.mono hk) hg hm kp bi .nil pass0 (pa_cons (pv i hN hv hd hcd) ha.pa he) hdb he hpl).imp fun σ H Q ⟨O, ρ, d, ρ', gd, e, q⟩ => ?_⟩
  obtain ⟨t0, e1, e2⟩ := bind_some e
  obtain ⟨es0, e3, e4⟩ := bind_some e2
  obtain ⟨⟨ds, ρ1⟩, e5, e6⟩ := bind_some e4
  obtain ⟨t, e7, e8⟩ := bind_some e6
  obtain ⟨bs, e9, e10⟩ := bind_some e8
  obtain ⟨⟨r, bs'⟩, e11, e12⟩ := bind_some e10
  cases e12
  obtain ⟨a, us, h1, _⟩ := gd.ownAt e1 e3
  refine ⟨_, h1, O, ρ, ds, ρ1, gd, e5, fun ws H1 x1 r1 => ?_⟩
  show spB F ((.ref a :: ws) ++ []) H1 Q E0
  rw [List.append_nil]
  obtain ⟨a', us1, h1', h2, h3, h4⟩ := x1.good.ownAt e7 e9
  rw [h1] at h1'; cases h1'
  exact ⟨a, ws, rfl, O, us1, bs, ds, r, bs', x1.good.otr .str, h2, h3, h4, r1, e11, fun v H2 us2 k1 k2 k3 k4 => q v H2 (x1.trans (x1.good.put e7 e9 h1 (fun c o hc e => k1 c o hc e) k2 k3)) k4⟩
/-! ## several targets -/
@[simp] def asgF (f : Rho → Option (D × Rho)) (b : D → Rho → Option Rho) : Rho → Option Out := fun ρ => (f ρ).bind fun p => (b p.1 p.2).bind fun ρ2 => some (.nx ρ2)
@[simp] def two : List D → Option (D × D)
  | [a, b] => some (a, b)
  | _ => none
@[simp] def three : List D → Option (D × D × D)
  | [a, b, c] => some (a, b, c)
  | _ => none
theorem two_some {ds : List D} {p : D × D} (h : two ds = some p) : ds = [p.1, p.2] := by
  unfold two at h
  split at h
  · cases h; rfl
  · cases h
theorem three_some {ds : List D} {p : D × D × D} (h : three ds = some p) : ds = [p.1, p.2.1, p.2.2] := by
  unfold three at h
  split at h
  · cases h; rfl
  · cases h
@[simp] def parF2 (i j : Nat) (fs : Rho → Option (List D × Rho)) : Rho → Option Out := fun ρ => (fs ρ).bind fun p => (two p.1).bind fun q => some (.nx ((p.2.set i (.dat q.1)).set j (.dat q.2)))
@[simp] def parF3 (i j k : Nat) (fs : Rho → Option (List D × Rho)) : Rho → Option Out := fun ρ => (fs ρ).bind fun p => (three p.1).bind fun q => some (.nx (((p.2.set i (.dat q.1)).set j (.dat q.2.1)).set k (.dat q.2.2)))
@[simp] def parDO (i j : Nat) (g : Rho → Option D) : Rho → Option Out := fun ρ => (g ρ).bind fun d => some (.nx ((ρ.set i (.dat d)).set j (.own [])))
@[simp] def parDOO (i j k : Nat) (g : Rho → Option D) : Rho → Option Out := fun ρ => (g ρ).bind fun d => some (.nx (((ρ.set i (.dat d)).set j (.own [])).set k (.own [])))
theorem ds_asg {tg : Expr} {is : List Nat} {b : D → Rho → Option Rho} (he : DE X B e f) (hg : DG X B tg is b) (hs : swapsWithSole [tg] e pos.line X.env = pure false := by rfl) (hw : swappedStores [tg] e X.env = pure none := by rfl)
    (h1 : (assignEach [tg] X.env).map (·.2) = [assign tg X.env] := by rfl) : DS X B (.Assign [tg] e pos) (asgF f b) := ⟨(ps_asg he.pe hg.pg hs hw h1).imp fun E σ H ⟨O, ρ, r, gd, e, q⟩ => by
  obtain ⟨⟨d, ρ1⟩, e1, e2⟩ := bind_some e
  obtain ⟨ρ2, e3, e4⟩ := bind_some e2
  cases e4
  refine ⟨O, ρ, d, ρ1, gd, e1, fun v H1 s1 r1 => ⟨O, ρ1, d, ρ2, s1.good, r1, e3, fun σ2 g2 w2 _ _ => ?_⟩⟩
  exact q σ2 H1 O ⟨s1.keep, fun _ h => .inl h, fun _ h => h, fun c h => .inl (s1.w c (w2 c h))⟩ g2⟩
section
variable {i j l : Nat} {x y z : Str} {px py pz pt : Pos} {kt k2 pt2}
theorem ds_par (hc : X.calm = true) (hN : X.N.Nodup) (hi : X.N[i]? = some x) (hj : X.N[j]? = some y) (hij : i ≠ j) (hx : X.env.scope.names.lookup x = some .local) (hy : X.env.scope.names.lookup y = some .local) (ha : DEA X B [a, b] fs)
    (hw : swappedStores [.Tuple [.Name x px, .Name y py] kt pt] (.Tuple [a, b] k2 pt2) X.env = pure (some [x, y])) (hs : swapsWithSole [.Tuple [.Name x px, .Name y py] kt pt] (.Tuple [a, b] k2 pt2) pos.line X.env = pure false := by rfl) :
    DS X B (.Assign [.Tuple [.Name x px, .Name y py] kt pt] (.Tuple [a, b] k2 pt2) pos) (parF2 i j fs) := ⟨(ps_par hc hN hi hj hij hx hy ha.pa hw hs).imp fun E σ H ⟨O, ρ, r, gd, e, q⟩ => by
  obtain ⟨⟨ds, ρ1⟩, e1, e2⟩ := bind_some e
  obtain ⟨⟨d1, d2⟩, e3, e4⟩ := bind_some e2
  cases two_some e3
  cases e4
  refine ⟨O, ρ, _, ρ1, gd, e1, fun vs H1 s1 r1 => ?_⟩
  simp only [RepL] at r1
  obtain ⟨v1, ws, rfl, q1, v2, ws2, rfl, q2, rfl⟩ := r1
  obtain ⟨g2, w2⟩ := s1.good.set (i := i) q1
  obtain ⟨g3, w3⟩ := g2.set (i := j) q2
  exact ⟨v1, v2, rfl, q _ H1 O ⟨s1.keep, fun _ h => .inl h, fun _ h => h, fun c h => .inl (s1.w c (w2 c (w3 c h)))⟩ g3⟩⟩
theorem ds_par3 (hc : X.calm = true) (hN : X.N.Nodup) (hi : X.N[i]? = some x) (hj : X.N[j]? = some y) (hl : X.N[l]? = some z) (hij : i ≠ j) (hil : i ≠ l) (hjl : j ≠ l) (hx : X.env.scope.names.lookup x = some .local) (hy : X.env.scope.names.lookup y = some .local) (hz : X.env.scope.names.lookup z = some .local) (ha : DEA X B [a, b, c] fs)
    (hw : swappedStores [.Tuple [.Name x px, .Name y py, .Name z pz] kt pt] (.Tuple [a, b, c] k2 pt2) X.env = pure (some [x, y, z])) (hs : swapsWithSole [.Tuple [.Name x px, .Name y py, .Name z pz] kt pt] (.Tuple [a, b, c] k2 pt2) pos.line X.env = pure false := by rfl) :
    DS X B (.Assign [.Tuple [.Name x px, .Name y py, .Name z pz] kt pt] (.Tuple [a, b, c] k2 pt2) pos) (parF3 i j l fs) := ⟨(L2.ps_par3 hc hN hi hj hl hij hil hjl hx hy hz ha.pa hw hs).imp fun E σ H ⟨O, ρ, r, gd, e, q⟩ => by
  obtain ⟨⟨ds, ρ1⟩, e1, e2⟩ := bind_some e
  obtain ⟨⟨d1, d2, d3⟩, e3, e4⟩ := bind_some e2
  cases three_some e3
  cases e4
  refine ⟨O, ρ, _, ρ1, gd, e1, fun vs H1 s1 r1 => ?_⟩
  simp only [RepL] at r1
  obtain ⟨v1, ws, rfl, q1, v2, ws2, rfl, q2, v3, ws3, rfl, q3, rfl⟩ := r1
  obtain ⟨g2, w2⟩ := s1.good.set (i := i) q1
  obtain ⟨g3, w3⟩ := g2.set (i := j) q2
  obtain ⟨g4, w4⟩ := g3.set (i := l) q3
  exact ⟨v1, v2, v3, rfl, q _ H1 O ⟨s1.keep, fun _ h => .inl h, fun _ h => h, fun c h => .inl (s1.w c (w2 c (w3 c (w4 c h))))⟩ g4⟩⟩
theorem own_nil {O : Addr → Prop} {H : Hp} {p : Addr} (hp : H p = none) : RepL (fun b => O b ∨ b = p) (upd H p (.lst [])) [] [] := .nil
theorem ds_parDO {lp : Pos} (hc : X.calm = true) (hN : X.N.Nodup) (hi : X.N[i]? = some x) (hj : X.N[j]? = some y) (hij : i ≠ j) (hx : X.env.scope.names.lookup x = some .local) (hy : X.env.scope.names.lookup y = some .local) (ha : DP X B .str a g)
    (hw : swappedStores [.Tuple [.Name x px, .Name y py] kt pt] (.Tuple [a, .List [] lp] k2 pt2) X.env = pure (some [x, y])) (hs : swapsWithSole [.Tuple [.Name x px, .Name y py] kt pt] (.Tuple [a, .List [] lp] k2 pt2) pos.line X.env = pure false := by rfl)
    (hs1 : starEach [a, .List [] lp] X.env = (false, eval a X.env) :: starEach [.List [] lp] X.env := by rfl) :
    DS X B (.Assign [.Tuple [.Name x px, .Name y py] kt pt] (.Tuple [a, .List [] lp] k2 pt2) pos) (parDO i j g) := ⟨(ps_par hc hN hi hj hij hx hy (pa_cons ha.pe (pa_cons (pe_lst pa_nil) pa_nil) hs1) hw hs).imp fun E σ H ⟨O, ρ, r, gd, e, q⟩ => by
  obtain ⟨d, e1, e2⟩ := bind_some e
  cases e2
  refine ⟨O, ρ, d, gd, e1, fun v H1 s1 r1 => ⟨Nat.zero_le _, fun p hp => ⟨v, .ref p, rfl, ?_⟩⟩⟩
  obtain ⟨g2, w2⟩ := (gd.same s1).set (i := i) r1
  obtain ⟨g3, s3⟩ := g2.setOwn (i := j) (ds := []) (same_upd hp) hp upd_same (own_nil hp)
  exact q _ _ _ (Stp.trans gd ⟨.of s1, fun _ h => .inl h, fun _ h => h, fun c h => .inl (w2 c h)⟩ s3) g3⟩
theorem ds_parDOO {lp lp2 : Pos} (hc : X.calm = true) (hN : X.N.Nodup) (hi : X.N[i]? = some x) (hj : X.N[j]? = some y) (hl : X.N[l]? = some z) (hij : i ≠ j) (hil : i ≠ l) (hjl : j ≠ l) (hx : X.env.scope.names.lookup x = some .local) (hy : X.env.scope.names.lookup y = some .local) (hz : X.env.scope.names.lookup z = some .local) (ha : DP X B .str a g)
    (hw : swappedStores [.Tuple [.Name x px, .Name y py, .Name z pz] kt pt] (.Tuple [a, .List [] lp, .List [] lp2] k2 pt2) X.env = pure (some [x, y, z])) (hs : swapsWithSole [.Tuple [.Name x px, .Name y py, .Name z pz] kt pt] (.Tuple [a, .List [] lp, .List [] lp2] k2 pt2) pos.line X.env = pure false := by rfl)
    (hs1 : starEach [a, .List [] lp, .List [] lp2] X.env = (false, eval a X.env) :: starEach [.List [] lp, .List [] lp2] X.env := by rfl) :
    DS X B (.Assign [.Tuple [.Name x px, .Name y py, .Name z pz] kt pt] (.Tuple [a, .List [] lp, .List [] lp2] k2 pt2) pos) (parDOO i j l g) := ⟨(L2.ps_par3 hc hN hi hj hl hij hil hjl hx hy hz (pa_cons ha.pe (pa_cons (pe_lst pa_nil) (pa_cons (pe_lst pa_nil) pa_nil)) hs1) hw hs).imp fun E σ H ⟨O, ρ, r, gd, e, q⟩ => by
  obtain ⟨d, e1, e2⟩ := bind_some e
  cases e2
  refine ⟨O, ρ, d, gd, e1, fun v H1 s1 r1 => ⟨Nat.zero_le _, fun p hp => ⟨Nat.zero_le _, fun p2 hp2 => ⟨v, .ref p, .ref p2, rfl, ?_⟩⟩⟩⟩
  obtain ⟨g2, w2⟩ := (gd.same s1).set (i := i) r1
  obtain ⟨g3, s3⟩ := g2.setOwn (i := j) (ds := []) (same_upd hp) hp upd_same (own_nil hp)
  obtain ⟨g4, s4⟩ := g3.setOwn (i := l) (ds := []) (same_upd hp2) hp2 upd_same (own_nil hp2)
  exact q _ _ _ (Stp.trans gd (Stp.trans gd ⟨.of s1, fun _ h => .inl h, fun _ h => h, fun c h => .inl (w2 c h)⟩ s3) s4) g4⟩
end
end
end DL

namespace DL
open PySem PySem.Spec
open PyProof.Rows hiding St
open L2
/-! ## the sources of draws -/
def wellL (c t : Int) : List Int := if c ≥ 10 ^ 18 then [c - 10 ^ 18, c % 2305843009213693951, t] else [0, c % 2305843009213693951, t]
def cellsOf (ns : List Int) (n : Nat) : List Int := ns.take n ++ [0]
def bagsL (k : Nat) : List Int → List (List Int)
  | [] => []
  | c :: cs => wellL c (977 * (k : Int)) :: bagsL (k + 1) cs
def intsD (ns : List Int) : List D := ns.map PyData.int
theorem bagsL_get : ∀ (cs : List Int) (k j : Nat), (bagsL k cs)[j]? = (cs[j]?).map fun c => wellL c (977 * ((k + j : Nat) : Int))
  | [], k, j => by simp [bagsL]
  | c :: cs, k, 0 => by simp [bagsL]
  | c :: cs, k, j + 1 => by
    simp only [bagsL, List.getElem?_cons_succ]
    rw [bagsL_get cs (k + 1) j]
    congr 1
    funext c
    congr 2
    omega
theorem bagsL_len : ∀ (cs : List Int) (k : Nat), (bagsL k cs).length = cs.length
  | [], k => rfl
  | c :: cs, k => by simp [bagsL, bagsL_len cs (k + 1)]
def spBags (K : PySem.W.Frag) : Sp := fun vs H Q _ => ∃ (a : Addr) (ns : List Int) (n : Nat), vs = [.ref a, .int n] ∧ SqL K H a (ns.map V.int) ∧ ns.length ≤ 63 ∧ n ≤ 63 ∧
  ∀ (p : Addr) (bs : List Addr) (H' : Hp), Same H H' → H p = none → H' p = some (.lst (bs.map V.ref)) → bs.length = (cellsOf ns n).length → bs.Nodup → p ∉ bs →
    (∀ (j : Nat) b c, bs[j]? = some b → (bagsL 0 (cellsOf ns n))[j]? = some c → H b = none ∧ H' b = some (.lst (c.map V.int))) → Q (.ref p) H'
theorem repL_ints {O : Addr → Prop} {H : Hp} : ∀ ns : List Int, RepL O H (intsD ns) (ns.map V.int)
  | [] => .nil
  | n :: ns => .cons (rep_int.mpr rfl) (repL_ints ns)
def lawL (i : Nat) (F : Rho → Option Out) : List (List Int) → Rho → Option Out
  | [], ρ => some (.nx ρ)
  | c :: cs, ρ => (F (ρ.set i (.own (intsD c)))).bind fun r => match r with
    | .nx ρ2 => lawL i F cs ρ2
    | .rt z ρ2 => some (.rt z ρ2)
def lawF (i l n : Nat) (a : Addr) (ns : List Int) (F : Rho → Option Out) : Rho → Option Out := fun ρ => match ρ[l]? with
  | some (.raw v) => if v = .ref a then lawL i F (bagsL 0 (cellsOf ns n)) ρ else none
  | _ => none
section
variable {B : Base} {O : Addr → Prop} {σ : St} {H H' : Hp} {ρ : Rho}
theorem Good.more (g : Good B O σ H ρ) {bs : List Addr} (s : Same H H') (h1 : ∀ b ∈ bs, H b = Option.none) (h2 : ∀ b ∈ bs, H' b ≠ Option.none) : Good B (fun b => O b ∨ b ∈ bs) σ H' ρ := by
  have mv : Mv O H (fun b => O b ∨ b ∈ bs) H' := ⟨fun b o e _ => s b o e, fun b h => h.elim .inl fun z => .inr (h1 b z)⟩
  refine ⟨g.len, fun b o e n => s b o (g.frame b o e n), g.o0, g.r0, fun b h => .inl (g.osub b h), fun b h => h.elim (fun z => s.ne (g.otrk b z)) (h2 b), fun b h => s.ne (g.h0 b h), fun i t e => ?_, g.sep⟩
  have k := g.slots i t e
  cases t with
  | nil => trivial
  | dat d => exact SlOk.mv mv rfl k
  | own ds => obtain ⟨a, vs, e, h1, h2, h3, h4, r⟩ := k; exact ⟨a, vs, e, .inl h1, h2, h3, s a _ h4, RepL.mv mv _ _ r⟩
  | bag ds => obtain ⟨a, vs, e, h1, h2, h4, r⟩ := k; exact ⟨a, vs, e, h1, .inl h2, s a _ h4, RepL.mv mv _ _ r⟩
  | raw v => exact k
theorem Good.adopt (g : Good B O σ H ρ) {i : Nat} {a : Addr} {ds : List D} {vs : List V} (h1 : O a) (h2 : ¬ B.O0 a) (h3 : B.H0 a = Option.none) (h4 : H a = some (.lst vs)) (r : RepL O H ds vs) (nw : ¬ Wof σ ρ a) :
    Good B O (σ.set i (some (.ref a))) H (ρ.set i (.own ds)) ∧ ∀ b, Wof (σ.set i (some (.ref a))) (ρ.set i (.own ds)) b → Wof σ ρ b ∨ b = a := by
  have lt : ∀ {s : Sl}, (ρ.set i (.own ds))[i]? = some s → i < ρ.length := fun e => by
    by_cases hl : i < ρ.length
    · exact hl
    · rw [List.getElem?_eq_none (by simpa using hl)] at e; cases e
  refine ⟨⟨by simp [g.len], g.frame, g.o0, g.r0, g.osub, g.otrk, g.h0, fun j t e => ?_, fun j k t u b e1 e2 q1 q2 e3 e4 => ?_⟩, fun b ⟨j, t, e, q, e3⟩ => ?_⟩
  · by_cases hj : i = j
    · subst hj
      have hl := lt e
      rw [List.getElem?_set_self hl] at e
      cases e
      rw [List.getElem?_set_self (by rw [g.len]; exact hl)]
      exact ⟨a, vs, rfl, h1, h2, h3, h4, r⟩
    · rw [get_set_ne hj] at e
      rw [get_set_ne hj]
      exact g.slots j t e
  · by_cases hj : i = j
    · by_cases hk : i = k
      · rw [← hj, ← hk]
      · subst hj
        rw [get_set_ne hk] at e2 e4
        rw [List.getElem?_set_self (by rw [g.len]; exact lt e1)] at e3
        cases e3
        exact absurd ⟨k, u, e2, q2, e4⟩ nw
    · by_cases hk : i = k
      · subst hk
        rw [get_set_ne hj] at e1 e3
        rw [List.getElem?_set_self (by rw [g.len]; exact lt e2)] at e4
        cases e4
        exact absurd ⟨j, t, e1, q1, e3⟩ nw
      · rw [get_set_ne hj] at e1 e3
        rw [get_set_ne hk] at e2 e4
        exact g.sep j k t u b e1 e2 q1 q2 e3 e4
  · by_cases hj : i = j
    · subst hj
      rw [List.getElem?_set_self (by rw [g.len]; exact lt e)] at e3
      cases e3
      exact .inr rfl
    · rw [get_set_ne hj] at e e3
      exact .inl ⟨j, t, e, q, e3⟩
end
structure BagsFn (P : Program) (w : World) (K : PySem.W.Frag) (mg : Str → Option Value) (base : Heap) (k : Nat) : Prop where
  ex : ∃ f fd ps, FnOk P w K mg base CX0 k f fd ps (spBags K) ∧ mg "_law_bags" = some (.ref f) ∧ PySem.W.keepIn K (.ref f) = true ∧ Binds K fd ps []
section
variable {X : Cx} {B : Base} {sts : List Stmt} {F : Rho → Option Out}
theorem ds_law {i l n k j : Nat} {a : Addr} {ns : List Int} {x y : Str} {px py pn pc pos p : Pos} {jn} (hb : BagsFn X.prog X.w X.K X.mg X.base k) (hr : Room j X.A) (hk : k ≤ j) (hR : ∀ b, ¬ B.R b) (hO : ∀ b, ¬ B.O0 b) (hS : SqL X.K B.H0 a (ns.map V.int)) (hns : ns.length ≤ 63) (hn : n ≤ 63)
    (hp : PassesOwn (model X.prog X.w) X.A X.env X.xe) (hc : X.calm = true) (hN : X.N.Nodup) (hi : X.N[i]? = some x) (hx : Loc X.env.scope x) (hl : X.N[l]? = some y) (hF : DSs X B sts F)
    (hg : Gl X "_law_bags" := by rfl) (hf : X.fn x = true ∨ X.env.scope.names.lookup x = some .local := by first | exact .inl rfl | exact .inr rfl | assumption)
    (hv : Vis X.env.scope y := by first | exact Or.inl rfl | exact Or.inr (Or.inl rfl) | exact Or.inr (Or.inr rfl)) (hd : (y == ("__debug__" : Str)) = false := by decide) (hcd : (y == ("__classdict__" : Str)) = false := by decide)
    (hs1 : starEach [.Name y py, .Constant (.int (n : Int)) jn pn] X.env = (false, eval (.Name y py) X.env) :: starEach [.Constant (.int (n : Int)) jn pn] X.env := by rfl) (hs2 : starEach [.Constant (.int (n : Int)) jn pn] X.env = (false, eval (.Constant (.int (n : Int)) jn pn) X.env) :: starEach [] X.env := by rfl)
    (hpl : (backTo pc (starEach [.Constant (.int (n : Int)) jn pn] X.env)).any (·.1) = false := by rfl)
    (hfs : ∀ z, foldedSetIterable (.Call (.Name "_law_bags" p) [.Name y py, .Constant (.int (n : Int)) jn pn] [] pc) X.env z = pure z := by intro _; rfl) :
    DS X B (.For (.Name x px) (.Call (.Name "_law_bags" p) [.Name y py, .Constant (.int (n : Int)) jn pn] [] pc) sts [] pos) (lawF i l n a ns F) := by
  obtain ⟨fb, fd, ps, G, hm, kp, bi⟩ := hb.ex
  refine ⟨(ps_for hp hc (pi_list (pe_call G (hr.mono hk) hg hm kp bi .nil pass0 (pa_cons (pv l hl hv hd hcd) (pa_cons pe_int pa_nil hs2) hs1) (by decide) hs1 hpl)) (pg_name hN hi hx hf) hF.ps hfs).imp fun E σ H ⟨O, ρ, r, gd, e, q⟩ => ?_⟩
  unfold lawF at e
  split at e
  · next v e1 =>
    split at e
    · next ev =>
      subst ev
      have hv1 : σ[l]? = some (some (.ref a)) := gd.slots l _ e1
      have sH0 : Same B.H0 H := fun b o e => gd.frame b o e (hR b)
      refine ⟨.ref a, hv1, ?_⟩
      simp only [tCons, tC, tNil, List.append_nil]
      refine ⟨a, ns, n, rfl, sH0.seq hS, hns, hn, fun p bs H1 s1 hp0 hp1 hbl hnd hpb hbs => ?_⟩
      refine ⟨p, rfl, ⟨_, .of hp1⟩, ?_⟩
      have hcl : (bagsL 0 (cellsOf ns n)).length = bs.length := by rw [bagsL_len, hbl]
      have getc : ∀ (j : Nat), j < bs.length → ∃ b c, bs[j]? = some b ∧ (bagsL 0 (cellsOf ns n))[j]? = some c ∧ H b = none ∧ H1 b = some (.lst (c.map V.int)) := fun j hj => by
        refine ⟨bs[j], (bagsL 0 (cellsOf ns n))[j]'(by omega), List.getElem?_eq_getElem hj, List.getElem?_eq_getElem (by omega), ?_⟩
        exact hbs j _ _ (List.getElem?_eq_getElem hj) (List.getElem?_eq_getElem (by omega))
      have fresh : ∀ b ∈ bs, H b = none ∧ ∃ c : List Int, H1 b = some (.lst (c.map V.int)) := fun b hb => by
        obtain ⟨j, hj, ej⟩ := List.mem_iff_getElem.mp hb
        obtain ⟨b', c, e1, _, h1, h2⟩ := getc j hj
        rw [List.getElem?_eq_getElem hj, ej] at e1
        cases e1
        exact ⟨h1, c, h2⟩
      have g1 : Good B (fun b => O b ∨ b ∈ bs) σ H1 ρ := gd.more s1 (fun b hb => (fresh b hb).1) fun b hb => by
        obtain ⟨c, h⟩ := (fresh b hb).2
        exact some_ne h
      have nw : ∀ b, H b = none → ¬ Wof σ ρ b := fun b hb z => by
        obtain ⟨_, vs, h⟩ := gd.wof z
        rw [hb] at h; cases h
      refine ⟨fun i' m σi Hi => m = bs.length - i' ∧ i' ≤ bs.length ∧ ∃ Oi ρi, Good B Oi σi Hi ρi ∧ Stp O σ H ρ Oi σi Hi ρi ∧ (∀ b ∈ bs, Oi b) ∧ Hi p = some (.lst (bs.map V.ref)) ∧ ¬ Oi p ∧
          (∀ (j : Nat) b c, i' ≤ j → bs[j]? = some b → (bagsL 0 (cellsOf ns n))[j]? = some c → Hi b = some (.lst (c.map V.int)) ∧ ¬ Wof σi ρi b) ∧ lawL i F ((bagsL 0 (cellsOf ns n)).drop i') ρi = some r,
        ⟨bs.length, by simp, Nat.zero_le _, _, ρ, g1, ⟨.of s1, fun b h => h.elim .inl fun z => .inr (fresh b z).1, fun b h => .inl h, fun b h => .inl h⟩, fun b hb => .inr hb, hp1, fun z => ?_, fun j b c _ e2 e3 => ⟨(hbs j b c e2 e3).2, nw b (hbs j b c e2 e3).1⟩, by simpa using e⟩, ?_⟩
      · rcases z with z | z
        · exact gd.otrk p z hp0
        · exact hpb z
      rintro i' m σi Hi ⟨rfl, hle, Oi, ρi, gi, si, hOi, hpi, hnp, hbi, ei⟩
      have npw : ¬ Wof σi ρi p := fun z => hnp (gi.wof z).1
      by_cases hlt : i' < bs.length
      · obtain ⟨b, c, eb, ec, hb0, _⟩ := getc i' hlt
        obtain ⟨hb1, hb2⟩ := hbi i' b c (Nat.le_refl _) eb ec
        have hlc : i' < (bagsL 0 (cellsOf ns n)).length := by omega
        have ec' : (bagsL 0 (cellsOf ns n))[i'] = c := by
          rw [List.getElem?_eq_getElem hlc] at ec
          exact Option.some.inj ec
        rw [List.drop_eq_getElem_cons hlc, ec'] at ei
        obtain ⟨r1, e3, e4⟩ := bind_some ei
        have hbm : b ∈ bs := List.mem_of_getElem? eb
        refine .inr ⟨⟨bs.map V.ref, .ref b, .of hpi, by rw [List.getElem?_map, eb]; rfl⟩, fun σ' H' => i' + 1 ≤ bs.length ∧ ∃ O' ρ', Good B O' σ' H' ρ' ∧ Stp O σ H ρ O' σ' H' ρ' ∧ (∀ b ∈ bs, O' b) ∧ H' p = some (.lst (bs.map V.ref)) ∧ ¬ O' p ∧
            (∀ (j : Nat) b c, i' + 1 ≤ j → bs[j]? = some b → (bagsL 0 (cellsOf ns n))[j]? = some c → H' b = some (.lst (c.map V.int)) ∧ ¬ Wof σ' ρ' b) ∧ lawL i F ((bagsL 0 (cellsOf ns n)).drop (i' + 1)) ρ' = some r,
          fun σ' H' ⟨h1, h2⟩ => ⟨bs.length - (i' + 1), by omega, rfl, h1, h2⟩, fun xv H2 yv => ?_⟩
        obtain ⟨rfl, yv⟩ := yv
        have exv : xv = .ref b := by
          have := yv _ (.of hpi)
          rw [List.getElem?_map, eb] at this
          exact (Option.some.inj this).symm
        subst exv
        have hB0 : B.H0 b = none := by
          cases e : B.H0 b with
          | none => rfl
          | some o =>
            have := sH0 b o e
            rw [hb0] at this; cases this
        obtain ⟨g2, w2⟩ := gi.adopt (i := i) (hOi b hbm) (hO b) hB0 hb1 (repL_ints c) hb2
        refine ⟨Oi, _, r1, g2, e3, ?_⟩
        have st2 : Stp O σ H ρ Oi (σi.set i (some (.ref b))) H2 (ρi.set i (.own (intsD c))) := ⟨si.keep, si.out, si.grow, fun c' h => (w2 c' h).elim (fun z => si.w c' z) fun z => .inr (by rw [z]; exact hb0)⟩
        cases r1 with
        | nx ρ2 =>
          intro σ' H' O' s3 g3
          have hpb' : p ≠ b := fun z => hpb (by rw [z]; exact hbm)
          have npw2 : ¬ Wof (σi.set i (some (.ref b))) (ρi.set i (.own (intsD c))) p := fun z => (w2 p z).elim npw hpb'
          have pk := s3.keep.keep p _ hpi npw2
          refine ⟨hlt, O', ρ2, g3, st2.trans gd s3, fun b' hb' => ?_, pk, fun z => ?_, fun j b' c' hj eb' ec2 => ?_, e4⟩
          · exact s3.grow b' (hOi b' hb')
          · rcases s3.out p z with z | z
            · exact hnp z
            · rw [hpi] at z; cases z
          · have hne : b' ≠ b := fun z => by
              subst z
              have h1 := (List.getElem?_eq_some_iff.mp eb').1
              have h2 := (List.getElem?_eq_some_iff.mp eb').2
              have h3 := (List.getElem?_eq_some_iff.mp eb).2
              have : i' = j := (List.getElem_inj hnd).mp (h3.trans h2.symm)
              omega
            obtain ⟨k1, k2⟩ := hbi j b' c' (by omega) eb' ec2
            have nw2 : ¬ Wof (σi.set i (some (.ref b))) (ρi.set i (.own (intsD c))) b' := fun z => (w2 b' z).elim k2 hne
            refine ⟨s3.keep.keep b' _ k1 nw2, fun z => ?_⟩
            rcases s3.w b' z with z | z
            · exact nw2 z
            · rw [k1] at z; cases z
        | rt z ρ2 =>
          cases e4
          exact fun v σ' H' O' s3 g3 r3 => q v σ' H' O' (st2.trans gd s3) g3 r3
      · have en : i' = bs.length := by omega
        subst en
        rw [← hcl, List.drop_length] at ei
        cases ei
        exact .inl ⟨⟨_, .of hpi, by simp⟩, q σi Hi Oi si gi⟩
    · cases e
  · cases e
end
end DL

namespace DL
open PySem PySem.Spec
open PyProof.Rows hiding St
open L2
theorem cut_take (xs : List V) (n : Nat) : cutV xs none (some (n : Int)) = xs.take n := by
  unfold cutV
  rw [HT.sIx_none, HT.sIx_nat]
  simp only [List.drop_zero, Nat.sub_zero]
  rcases Nat.le_total n xs.length with h | h
  · rw [Nat.min_eq_left h]
  · rw [Nat.min_eq_right h, List.take_of_length_le (Nat.le_refl _), List.take_of_length_le h]
theorem repL_ints_iff {O : Addr → Prop} {H : Hp} : ∀ {ns : List Int} {vs : List V}, RepL O H (intsD ns) vs → vs = ns.map V.int
  | [], vs, h => by simpa [intsD, RepL] using h
  | n :: ns, vs, h => by
    have h' : ∃ v ws, vs = v :: ws ∧ Rep O H (.int n) v ∧ RepL O H (intsD ns) ws := by
      simpa only [intsD, List.map_cons, RepL] using h
    obtain ⟨v, ws, rfl, h1, h2⟩ := h'
    rw [rep_int.mp h1, repL_ints_iff h2]
    rfl
theorem bags_read {K : PySem.W.Frag} {F : List D → Option D} (hw : ∀ c t, F [.int c, .int t] = some (.list (intsD (wellL c t)))) {vs : List V} {H : Hp} {Q : VK} {E : XK} (h : spBags K vs H Q E) {D : Ends} (hD : D.rt = Q) :
    tRet (tLc (iEnum K (tCons (tOp (rAddA K) (tSl (rSlL K) (tVar 0) tNoPart (tPart (tVar 1))) (tLst (tCons (tC (.int 0)) tNil))) tNil)) (gTup K 2 (gCons (gName 2) (gCons (gName 3) gNil))) tYes
      (tCall (spP F) [] E0 (tCons (tVar 3) (tCons (tOp (rI CMul fun i j => .int (i * j)) (tC (.int 977)) (tVar 2)) tNil))) [2, 3]) D (vs.map some ++ [none, none]) H := by
  obtain ⟨a, ns, n, rfl, hS, hns, hn, q⟩ := h
  subst hD
  refine ⟨.ref a, rfl, .int n, rfl, n, rfl, a, ns.map V.int, rfl, hS, fun p1 hp1 => ?_⟩
  refine ⟨(by show 1 ≤ sizeLine; rw [sizeLine_eq]; decide), fun p2 hp2 => .inr (.inr ⟨p1, p2, (ns.map V.int).take n, [.int 0], rfl, rfl, ?_, upd_same, ?_, fun p3 hp3 => ?_⟩)⟩
  · rw [upd_ne (fun z => by rw [z, upd_same] at hp2; cases hp2), cut_take, upd_same]
  · rw [List.length_take, List.length_map, sizeLine_eq]
    show min n ns.length + 1 ≤ _
    omega
  have hcs : (ns.map V.int).take n ++ [.int 0] = (cellsOf ns n).map V.int := by
    unfold cellsOf
    rw [List.map_append, List.map_take]
    rfl
  rw [hcs]
  generalize hH1 : upd (upd (upd H p1 (.lst (cutV (ns.map V.int) none (some (n : Int))))) p2 (.lst [.int 0])) p3 (.lst ((cellsOf ns n).map V.int)) = H1
  have s1 : Same H H1 := by
    rw [← hH1]
    exact (same_upd hp1).trans ((same_upd hp2).trans (same_upd hp3))
  have e3 : H1 p3 = some (.lst ((cellsOf ns n).map V.int)) := by rw [← hH1, upd_same]
  refine ⟨p3, _, rfl, .of e3, fun Dl hD => ?_⟩
  have lcl : (cellsOf ns n).length ≤ 64 := by unfold cellsOf; rw [List.length_append, List.length_take]; simp; omega
  refine lc_it (σ := [some (.ref a), some (.int n), none, none]) (walk_enum (K := K) (a := p3) (xs := (cellsOf ns n).map V.int)) (fun i Hi => ∃ bs : List Addr, bs.length = i ∧ Hi Dl = some (.lst (bs.map V.ref)) ∧ bs.Nodup ∧ Dl ∉ bs ∧ Same H1 Hi ∧
      ∀ (j : Nat) b c, bs[j]? = some b → (bagsL 0 (cellsOf ns n))[j]? = some c → H1 b = none ∧ Hi b = some (.lst (c.map V.int))) ⟨[], rfl, upd_same, .nil, by simp, same_upd hD, fun j b c e => by simp at e⟩
    (fun i Hi _ ⟨bs, _, _, _, _, s, _⟩ => .of (s _ _ e3)) ?_ ?_
  · rintro i x Hi H2 hi ⟨bs, hbl, hbD, hbn, hDb, s2, hbs⟩ ⟨T, x1, x2, rfl, hT, rfl, ex1, ex2⟩
    cases Option.some.inj ex1
    rw [List.length_map] at hi
    have ec : (cellsOf ns n)[i]? = some (cellsOf ns n)[i] := List.getElem?_eq_getElem hi
    have ex2 : ((cellsOf ns n).map V.int)[i]? = some x2 := ex2
    rw [List.getElem?_map, ec] at ex2
    cases Option.some.inj ex2
    have sT : Same Hi (upd Hi T (.tup [.int (i : Int), .int (cellsOf ns n)[i]])) := same_upd hT
    refine ⟨T, [.int (i : Int), .int (cellsOf ns n)[i]], rfl, .of upd_same, rfl, _, _, rfl, _, _, rfl, rfl, ?_⟩
    refine ⟨rfl, ?_⟩
    simp only [tYes, if_true]
    refine ⟨.int (cellsOf ns n)[i], rfl, .int (i : Int), rfl, 977, (i : Int), rfl, rfl, .inl ⟨by decide, by decide⟩, ?_⟩
    generalize hH2 : upd Hi T (.tup [.int (i : Int), .int (cellsOf ns n)[i]]) = H2 at sT
    show spP F [V.int (cellsOf ns n)[i], V.int (977 * (i : Int))] H2 _ E0
    refine ⟨fun b => H2 b ≠ none, [.int (cellsOf ns n)[i], .int (977 * (i : Int))], _, fun b h => h, .cons (rep_int.mpr rfl) (.cons (rep_int.mpr rfl) .nil), hw _ _, fun v H3 s3 r3 => ?_⟩
    simp only [Rep] at r3
    obtain ⟨b, us, rfl, nb, hb, r⟩ := r3
    have hbn2 : H2 b = none := by
      cases e : H2 b with
      | none => rfl
      | some o => exact absurd (some_ne e) nb
    have hbi : Hi b = none := sT.free hbn2
    rw [repL_ints_iff r] at hb
    have hDb2 : Dl ≠ b := fun z => by rw [← z, hbD] at hbi; cases hbi
    refine ⟨bs.map V.ref, s3 _ _ (sT _ _ hbD), by rw [List.length_map, hbl, sizeLine_eq]; omega, bs ++ [b], by rw [List.length_append, hbl]; rfl, by rw [upd_same, List.map_append]; rfl, ?_, ?_, ?_, ?_⟩
    · rw [List.nodup_append]
      refine ⟨hbn, by simp, fun x hx y hy => ?_⟩
      have ey : y = b := by simpa using hy
      rintro rfl
      subst ey
      obtain ⟨j, hj, ej⟩ := List.mem_iff_getElem.mp hx
      have hjc : j < (bagsL 0 (cellsOf ns n)).length := by rw [bagsL_len]; omega
      have := (hbs j x _ (by rw [List.getElem?_eq_getElem hj, ej]) (List.getElem?_eq_getElem hjc)).2
      rw [hbi] at this; cases this
    · intro z
      rcases List.mem_append.mp z with z | z
      · exact hDb z
      · exact hDb2 (by simpa using z)
    · intro c o e
      have hcD : c ≠ Dl := fun z => by rw [z, hD] at e; cases e
      rw [upd_ne hcD]
      exact s3 _ _ (sT _ _ (s2 _ _ e))
    · intro j b' c e1 e2
      have keepb : ∀ {o : HO}, b' ≠ Dl → H3 b' = some o → upd H3 Dl (.lst (bs.map V.ref ++ [.ref b])) b' = some o := fun hne e => by rw [upd_ne hne]; exact e
      by_cases hj : j < bs.length
      · rw [List.getElem?_append_left hj] at e1
        obtain ⟨h1, h2⟩ := hbs j b' c e1 e2
        refine ⟨h1, keepb (fun z => hDb (by rw [← z]; exact List.mem_of_getElem? e1)) (s3 _ _ (sT _ _ h2))⟩
      · have ej : j = bs.length := by
          have := (List.getElem?_eq_some_iff.mp e1).1
          rw [List.length_append] at this
          simp at this
          omega
        subst ej
        rw [List.getElem?_append_right (Nat.le_refl _)] at e1
        simp at e1
        subst e1
        rw [bagsL_get, hbl, ec] at e2
        have e2' : wellL (cellsOf ns n)[i] (977 * ((0 + i : Nat) : Int)) = c := Option.some.inj e2
        rw [Nat.zero_add] at e2'
        subst e2'
        exact ⟨s2.free hbi, keepb (fun z => hDb2 z.symm) hb⟩
  · rintro Hi ⟨bs, hbl, hbD, hbn, hDb, s2, hbs⟩
    rw [List.length_map] at hbl
    have hDH : H Dl = none := s1.free hD
    refine q Dl bs Hi (s1.trans s2) hDH hbD hbl hbn hDb fun j b c e1 e2 => ?_
    obtain ⟨h1, h2⟩ := hbs j b c e1 e2
    exact ⟨s1.free h1, h2⟩
end DL

namespace DL
open PySem PySem.Spec
open PyProof.Rows hiding St
open L2
/-! ## isinstance, len, max, min of two -/
inductive Ty where | int | bool | str | tuple | list
def Ty.name : Ty → String
  | .int => "int" | .bool => "bool" | .str => "str" | .tuple => "tuple" | .list => "list"
def Ty.py : Ty → Str
  | .int => "int" | .bool => "bool" | .str => "str" | .tuple => "tuple" | .list => "list"
@[simp] def isTy : Ty → D → Bool
  | .int, .int _ => true
  | .int, .bool _ => true
  | .bool, .bool _ => true
  | .str, .str _ => true
  | .tuple, .tuple _ => true
  | .list, .list _ => true
  | _, _ => false
@[simp] def isTyD (T : Ty) : D → Option D := fun d => some (.bool (isTy T d))
@[simp] def isAnyD (Ts : List Ty) : D → Option D := fun d => some (.bool (Ts.any fun T => isTy T d))
theorem kt_none : ∀ T : Ty, kitB "NoneType" T.name = some (isTy T .none) := by intro T; cases T <;> decide +kernel
theorem kt_bool : ∀ T : Ty, kitB "bool" T.name = some (isTy T (.bool true)) := by intro T; cases T <;> decide +kernel
theorem kt_int : ∀ T : Ty, kitB "int" T.name = some (isTy T (.int 0)) := by intro T; cases T <;> decide +kernel
theorem kt_str : ∀ T : Ty, kitB "str" T.name = some (isTy T (.str ⟨#[]⟩)) := by intro T; cases T <;> decide +kernel
theorem kt_list : ∀ T : Ty, kitB "list" T.name = some (isTy T (.list [])) := by intro T; cases T <;> decide +kernel
theorem kt_tuple : ∀ T : Ty, kitB "tuple" T.name = some (isTy T (.tuple [])) := by intro T; cases T <;> decide +kernel
theorem kt_of {K : PySem.W.Frag} {a : String} {T : Ty} {d e : D} (h : kitB a T.name = some (isTy T d)) (q : isTy T d = isTy T e) : PySem.W.kitOne K (.type a) (.type T.name) = some (isTy T e) := by
  rw [← q]
  exact kit_ty h
theorem ty_of {K : PySem.W.Frag} {O : Addr → Prop} {H : Hp} {d : D} {v : V} (h : Rep O H d v) : ∃ t : String, TyX K H v (.type t) ∧ ∀ T : Ty, PySem.W.kitOne K (.type t) (.type T.name) = some (isTy T d) := by
  cases d with
  | none => rw [rep_none.mp h]; exact ⟨"NoneType", .base .non, fun T => kt_of (kt_none T) rfl⟩
  | bool b => rw [rep_bool.mp h]; exact ⟨"bool", .base (.bl b), fun T => kt_of (kt_bool T) (by cases T <;> rfl)⟩
  | int b => rw [rep_int.mp h]; exact ⟨"int", .base (.int b), fun T => kt_of (kt_int T) (by cases T <;> rfl)⟩
  | str b => rw [rep_str.mp h]; exact ⟨"str", .base (.str b), fun T => kt_of (kt_str T) (by cases T <;> rfl)⟩
  | list ds => simp only [Rep] at h; obtain ⟨a, vs, rfl, _, ha, _⟩ := h; exact ⟨"list", .base (.lst ha), fun T => kt_of (kt_list T) (by cases T <;> rfl)⟩
  | tuple ds => simp only [Rep] at h; obtain ⟨a, vs, rfl, ha, _⟩ := h; exact ⟨"tuple", .base (.tup ha), fun T => kt_of (kt_tuple T) (by cases T <;> rfl)⟩
  | dict ds => simp only [Rep] at h
theorem boot_ty (T : Ty) : bootBuiltins T.py = some (.type T.name) := by
  cases T <;> decide +kernel
section
variable {X : Cx} {B : Base} {m : Md} {e : Expr} {g : Rho → Option D} {pos p p2 : Pos}
theorem dp_isi {T : Ty} {y : Str} (hm : X.mg "isinstance" = none) (hmT : X.mg y = none) (hy : y = T.py) (he : DP X B m e g) (hg : Gl X "isinstance" := by rfl) (hgT : Gl X y := by rfl) (hn : y ≠ "__name__" := by decide) (hd : (y == ("__debug__" : Str)) = false := by decide)
    (hs : starEach (e :: [.Name y p2]) X.env = (false, eval e X.env) :: starEach [.Name y p2] X.env := by rfl) (hpl : (backTo pos (starEach [.Name y p2] X.env)).any (·.1) = false := by rfl) :
    DP X B m (.Call (.Name "isinstance" p) [e, .Name y p2] [] pos) (b1D g (isTyD T)) := by
  subst hy
  refine ⟨(pe_callB call_isi hg hm boot_isinstance (pa_cons he.pe (pa_cons (pe_bltn (v := .ty T.name) hgT hmT (boot_ty T) rfl hn hd) pa_nil) hs) (by decide) (by decide) hs hpl).imp fun σ H Q ⟨O, ρ, d, gd, e, q⟩ => ?_⟩
  obtain ⟨d1, e1, e2⟩ := bind_some e
  cases e2
  refine ⟨O, ρ, d1, gd, e1, fun v H1 s1 r1 => ?_⟩
  obtain ⟨t, h1, h2⟩ := ty_of (K := X.K) r1
  exact ⟨v, .ty T.name, _, _, _, rfl, .ty _, h1, h2 T, q _ H1 s1 (rep_bool.mpr rfl)⟩
theorem kit_any {K : PySem.W.Frag} {t : String} {d : D} (h : ∀ T : Ty, PySem.W.kitOne K (.type t) (.type T.name) = some (isTy T d)) : ∀ Ts : List Ty, PySem.W.kitAny K (.type t) (Ts.map fun T => Value.type T.name) = some (Ts.any fun T => isTy T d)
  | [] => kitAny_nil
  | T :: Ts => by
    rw [List.map_cons, List.any_cons]
    refine kitAny_cons (h T) (fun e => ?_) fun e => ?_
    · rw [e, Bool.false_or]; exact kit_any h Ts
    · rw [e, Bool.true_or]
theorem dp_isi3 {T1 T2 T3 : Ty} {y1 y2 y3 : Str} {q1 q2 q3 pt : Pos} {kt} (hm : X.mg "isinstance" = none) (hm1 : X.mg y1 = none) (hm2 : X.mg y2 = none) (hm3 : X.mg y3 = none) (hy1 : y1 = T1.py) (hy2 : y2 = T2.py) (hy3 : y3 = T3.py) (he : DP X B m e g) (hg : Gl X "isinstance" := by rfl)
    (hg1 : Gl X y1 := by rfl) (hg2 : Gl X y2 := by rfl) (hg3 : Gl X y3 := by rfl) (hn1 : y1 ≠ "__name__" := by decide) (hn2 : y2 ≠ "__name__" := by decide) (hn3 : y3 ≠ "__name__" := by decide) (hd1 : (y1 == ("__debug__" : Str)) = false := by decide) (hd2 : (y2 == ("__debug__" : Str)) = false := by decide) (hd3 : (y3 == ("__debug__" : Str)) = false := by decide)
    (hs : starEach (e :: [.Tuple [.Name y1 q1, .Name y2 q2, .Name y3 q3] kt pt]) X.env = (false, eval e X.env) :: starEach [.Tuple [.Name y1 q1, .Name y2 q2, .Name y3 q3] kt pt] X.env := by rfl) (hpl : (backTo pos (starEach [.Tuple [.Name y1 q1, .Name y2 q2, .Name y3 q3] kt pt] X.env)).any (·.1) = false := by rfl)  :
    DP X B m (.Call (.Name "isinstance" p) [e, .Tuple [.Name y1 q1, .Name y2 q2, .Name y3 q3] kt pt] [] pos) (b1D g (isAnyD [T1, T2, T3])) := by
  subst hy1 hy2 hy3
  refine ⟨(pe_callB call_isiT hg hm boot_isinstance (pa_cons he.pe (pa_cons (pe_tup (pa_cons (pe_bltn (v := .ty T1.name) hg1 hm1 (boot_ty T1) rfl hn1 hd1) (pa_cons (pe_bltn (v := .ty T2.name) hg2 hm2 (boot_ty T2) rfl hn2 hd2) (pa_cons (pe_bltn (v := .ty T3.name) hg3 hm3 (boot_ty T3) rfl hn3 hd3) pa_nil)))) pa_nil) hs) (by decide) (by decide) hs hpl).imp fun σ H Q ⟨O, ρ, d, gd, e, q⟩ => ?_⟩
  obtain ⟨d1, e1, e2⟩ := bind_some e
  cases e2
  refine ⟨O, ρ, d1, gd, e1, fun v H1 s1 r1 => ?_⟩
  refine ⟨by show 3 ≤ sizeLine; rw [sizeLine_eq]; decide, fun tp htp => ?_⟩
  have r2 := r1.same (H' := upd H1 tp (.tup [.ty T1.name, .ty T2.name, .ty T3.name])) (same_upd htp)
  obtain ⟨t, h1, h2⟩ := ty_of (K := X.K) r2
  refine ⟨v, tp, _, .type t, [.type T1.name, .type T2.name, .type T3.name], _, rfl, upd_same, .cons (.ty _) (.cons (.ty _) (.cons (.ty _) .nil)), h1, kit_any h2 [T1, T2, T3], q _ _ (s1.trans (same_upd htp)) (rep_bool.mpr rfl)⟩
end
/-! ## an item of a list of one's own -/
@[simp] def ixO (i : Nat) (gk : Rho → Option D) : Rho → Option D := fun ρ => (gk ρ).bind fun k => (asInt k).bind fun k => (ρ[i]?).bind fun t => (ownOf t).bind fun es => (atI es k).bind immD
section
variable {X : Cx} {B : Base} {m : Md} {k : Expr} {gk : Rho → Option D} {pos p : Pos}
theorem dp_ixO {i : Nat} {x : Str} (hN : X.N[i]? = some x) (hk : DP X B m k gk) (hv : Vis X.env.scope x := by first | exact Or.inl rfl | exact Or.inr (Or.inl rfl) | exact Or.inr (Or.inr rfl)) (hd : (x == ("__debug__" : Str)) = false := by decide)
    (hcd : (x == ("__classdict__" : Str)) = false := by decide) (hs : PlainIx k := by exact fun _ _ => rfl) : DP X B m (.Subscript (.Name x p) k pos) (ixO i gk) := ⟨(pe_ix ix_list (pv i hN hv hd hcd) hk.pe hs).imp fun σ H Q ⟨O, ρ, d, gd, e, q⟩ => by
  obtain ⟨kd, e1, e2⟩ := bind_some e
  obtain ⟨n, e3, e4⟩ := bind_some e2
  obtain ⟨t, e5, e6⟩ := bind_some e4
  obtain ⟨es, e7, e8⟩ := bind_some e6
  obtain ⟨z, e9, e10⟩ := bind_some e8
  have ek : kd = .int n := by
    unfold asInt at e3
    split at e3
    · cases e3; rfl
    · cases e3
  subst ek
  obtain ⟨a, vs, h1, h2, h3, h4⟩ := gd.ownAt e5 e7
  obtain ⟨v, e11, r⟩ := atI_rep h4 e9
  unfold immD at e10
  split at e10
  · next hi =>
    cases e10
    refine ⟨_, h1, O, ρ, _, gd, e1, fun w H1 s1 r1 => ⟨a, vs, n, v, rfl, rep_int.mp r1, .of (s1 a _ h3), e11, q v H1 s1 ((r.same s1).imm hi)⟩⟩
  · cases e10⟩
end
@[simp] def lenD : List D → Option D
  | [.list ds] => some (.int ds.length)
  | [.tuple ds] => some (.int ds.length)
  | _ => none
@[simp] def max2D : List D → Option D
  | [.int i, .int j] => some (.int (if j > i then j else i))
  | _ => none
@[simp] def min2D : List D → Option D
  | [.int i, .int j] => some (.int (if j < i then j else i))
  | _ => none
theorem repL_one {O : Addr → Prop} {H : Hp} {d : D} {vs : List V} (h : RepL O H [d] vs) : ∃ v, vs = [v] ∧ Rep O H d v := by
  simp only [RepL] at h
  obtain ⟨v, ws, rfl, r, rfl⟩ := h
  exact ⟨v, rfl, r⟩
theorem repL_two {O : Addr → Prop} {H : Hp} {d e : D} {vs : List V} (h : RepL O H [d, e] vs) : ∃ v w, vs = [v, w] ∧ Rep O H d v ∧ Rep O H e w := by
  simp only [RepL] at h
  obtain ⟨v, ws, rfl, r, w, us, rfl, r2, rfl⟩ := h
  exact ⟨v, w, rfl, r, r2⟩
section
variable {K : PySem.W.Frag}
theorem n_len : OpN (fun xs H Q => ∃ p ys, xs = [.ref p] ∧ (SqL K H p ys ∨ SqT K H p ys) ∧ Q (.int ys.length) H) lenD := by
  intro O H ds z xs Q t hf rx q
  unfold lenD at hf
  split at hf
  · cases hf
    obtain ⟨v, rfl, r⟩ := repL_one rx
    simp only [Rep] at r
    obtain ⟨a, vs, rfl, _, ha, r⟩ := r
    exact ⟨a, vs, rfl, .inl (.of ha), q _ H (Same.refl H) (rep_int.mpr (by rw [r.length]))⟩
  · cases hf
    obtain ⟨v, rfl, r⟩ := repL_one rx
    simp only [Rep] at r
    obtain ⟨a, vs, rfl, ha, r⟩ := r
    exact ⟨a, vs, rfl, .inr (.of ha), q _ H (Same.refl H) (rep_int.mpr (by rw [r.length]))⟩
  · cases hf
theorem n_max2 : OpN (fun xs H Q => ∃ i j, xs = [.int i, .int j] ∧ Q (.int (if j > i then j else i)) H) max2D := by
  intro O H ds z xs Q t hf rx q
  unfold max2D at hf
  split at hf
  · cases hf
    obtain ⟨v, w, rfl, r, r2⟩ := repL_two rx
    rw [rep_int.mp r, rep_int.mp r2]
    exact ⟨_, _, rfl, q _ H (Same.refl H) (rep_int.mpr rfl)⟩
  · cases hf
theorem n_min2 : OpN (fun xs H Q => ∃ i j, xs = [.int i, .int j] ∧ Q (.int (if j < i then j else i)) H) min2D := by
  intro O H ds z xs Q t hf rx q
  unfold min2D at hf
  split at hf
  · cases hf
    obtain ⟨v, w, rfl, r, r2⟩ := repL_two rx
    rw [rep_int.mp r, rep_int.mp r2]
    exact ⟨_, _, rfl, q _ H (Same.refl H) (rep_int.mpr rfl)⟩
  · cases hf
end
end DL

namespace DL
open PySem PySem.Spec
open PyProof.Rows hiding St
open L2
/-! ## the ends of a row -/
structure DefAt (K : PySem.W.Frag) (mg : Str → Option Value) (x : Str) (st : Stmt) (ps : List Str) : Prop where
  ex : ∃ f fd, L2.Fun K x x st f fd ∧ Binds K fd ps [] ∧ mg x = some (.ref f)
def spLaw (K : PySem.W.Frag) : Sp := fun vs H Q _ => ∃ (a : Addr) (ns : List Int), vs = [.ref a] ∧ SqL K H a (ns.map V.int) ∧ ns.length ≤ 63 ∧ ∀ H', Q (.bl true) H'
theorem good_law (H : Hp) (a : Addr) (n : Nat) : Good ⟨H, fun _ => False, fun _ => False⟩ (fun _ => False) (some (.ref a) :: List.replicate n none) H (.raw (.ref a) :: List.replicate n .nil) := by
  have no : ∀ (i : Nat) s, (Sl.raw (V.ref a) :: List.replicate n Sl.nil)[i]? = some s → isOwn s = false := fun i s e => by
    cases i with
    | zero => simp at e; subst e; rfl
    | succ i =>
      rw [List.getElem?_cons_succ, List.getElem?_replicate] at e
      split at e
      · cases e; rfl
      · cases e
  refine ⟨by simp, fun _ _ e _ => e, fun _ h => h.elim, fun _ h => h.elim, fun _ h => h, fun _ h => h.elim, fun _ h => h, fun i s e => ?_, fun i j s t b e1 _ q _ _ _ => by rw [no i s e1] at q; cases q⟩
  cases i with
  | zero => simp at e; subst e; rfl
  | succ i =>
    rw [List.getElem?_cons_succ, List.getElem?_replicate] at e
    split at e
    · cases e; trivial
    · cases e
abbrev mulA := mulD
theorem op_mulA {X : Cx} : OpR X (binaryOp .Mult) (rI CMul fun i j => .int (i * j)) := op_mul
theorem o_mulA : Op2 (rI CMul fun i j => .int (i * j)) mulA := o_mul
theorem Fn.mono {P : Program} {w : World} {K : PySem.W.Frag} {mg : Str → Option Value} {base : Heap} {j k : Nat} {x : Str} {F : List D → Option D} (h : Fn P w K mg base j x F) (hk : j ≤ k) : Fn P w K mg base k x F := by
  obtain ⟨f, fd, ps, G, r⟩ := h.ex
  exact ⟨f, fd, ps, G.mono hk, r⟩
end DL

namespace DL
open PySem PySem.Spec
open PyProof.Rows hiding St
open L2
/-! ## facts for evaluation -/
@[simp] theorem shaped_int (i : Int) : SeqAt.shaped (.int i) = true := by simp [SeqAt.shaped, PyData.canLay0, PyData.depth]
@[simp] theorem shaped_bool (i : Bool) : SeqAt.shaped (.bool i) = true := by simp [SeqAt.shaped, PyData.canLay0, PyData.depth]
@[simp] theorem shaped_none : SeqAt.shaped .none = true := by simp [SeqAt.shaped, PyData.canLay0, PyData.depth]
@[simp] theorem eqv_int (i j : Int) : PyData.eqv (.int i) (.int j) = (i == j) := by simp [PyData.eqv]
@[simp] theorem atI_natCast {α : Type} (xs : List α) (n : Nat) : atI xs (n : Int) = xs[n]? := by
  by_cases h : n < xs.length
  · rw [atI_nat (List.getElem?_eq_getElem h), List.getElem?_eq_getElem h]
  · rw [List.getElem?_eq_none (by omega)]
    unfold atI ixN
    rw [if_pos (by omega), if_neg (by omega)]
    rfl
@[simp] theorem atI_zero {α : Type} (xs : List α) : atI xs 0 = xs[0]? := atI_natCast xs 0
@[simp] theorem atI_one {α : Type} (xs : List α) : atI xs 1 = xs[1]? := atI_natCast xs 1
@[simp] theorem atI_two {α : Type} (xs : List α) : atI xs 2 = xs[2]? := atI_natCast xs 2
@[simp] theorem atI_three {α : Type} (xs : List α) : atI xs 3 = xs[3]? := atI_natCast xs 3
@[simp] theorem atI_neg_one {α : Type} (xs : List α) : atI xs (-1) = xs.getLast? := by
  cases h : xs.getLast? with
  | none =>
    rw [List.getLast?_eq_none_iff] at h
    subst h
    rfl
  | some v =>
    obtain ⟨ys, rfl⟩ := List.getLast?_eq_some_iff.mp h
    exact atI_last ys v
@[simp] theorem ixN_zero (n : Nat) : ixN (n + 1) 0 = some 0 := by
  unfold ixN
  rw [if_pos (by omega), if_pos (by omega)]
  rfl
@[simp] theorem ixN_one (n : Nat) : ixN (n + 2) 1 = some 1 := by
  unfold ixN
  rw [if_pos (by omega), if_pos (by omega)]
  rfl
@[simp] theorem ixN_two (n : Nat) : ixN (n + 3) 2 = some 2 := by
  unfold ixN
  rw [if_pos (by omega), if_pos (by omega)]
  rfl
/-! ## draws -/
def bigM : Int := 2305843009213693951
def Bag (n : Int) (bs : List D) : Prop := ∃ a b c : Int, bs = [.int a, .int b, .int c] ∧ 0 ≤ b ∧ b < bigM ∧ 0 ≤ c ∧ c ≤ n
theorem Bag.mono {n m : Int} {bs : List D} (h : Bag n bs) (l : n ≤ m) : Bag m bs := by
  obtain ⟨a, b, c, e, h1, h2, h3, h4⟩ := h
  exact ⟨a, b, c, e, h1, h2, h3, by omega⟩
theorem bag_well (c t n : Int) (h0 : 0 ≤ t) (h : t ≤ n) : Bag n (intsD (wellL c t)) := by
  have h1 : 0 ≤ c % bigM := Int.emod_nonneg _ (by decide)
  have h2 : c % bigM < bigM := Int.emod_lt_of_pos _ (by decide)
  unfold wellL
  split
  · exact ⟨_, _, _, rfl, h1, h2, h0, h⟩
  · exact ⟨_, _, _, rfl, h1, h2, h0, h⟩
theorem bags_bag : ∀ (cs : List Int) (k : Nat) (n : Int), 977 * ((k + cs.length : Nat) : Int) ≤ n → ∀ c ∈ bagsL k cs, Bag n (intsD c)
  | [], k, n, h, c, hc => by simp [bagsL] at hc
  | x :: cs, k, n, h, c, hc => by
    simp only [bagsL, List.mem_cons] at hc
    simp only [List.length_cons] at h
    rcases hc with rfl | hc
    · exact bag_well _ _ _ (by omega) (by omega)
    · exact bags_bag cs (k + 1) n (by omega) c hc
theorem lawL_ok {i : Nat} {F : Rho → Option Out} (J : Rho → Prop) : ∀ (cs : List (List Int)), (∀ c ∈ cs, ∀ ρ, J ρ → ∃ ρ', F (ρ.set i (.own (intsD c))) = some (.nx ρ') ∧ J ρ') → ∀ ρ, J ρ → ∃ ρ', lawL i F cs ρ = some (.nx ρ') ∧ J ρ'
  | [], h, ρ, j => ⟨ρ, rfl, j⟩
  | c :: cs, h, ρ, j => by
    obtain ⟨ρ1, e1, j1⟩ := h c (by simp) ρ j
    obtain ⟨ρ2, e2, j2⟩ := lawL_ok J cs (fun c hc => h c (by simp [hc])) ρ1 j1
    refine ⟨ρ2, ?_, j2⟩
    unfold lawL
    rw [e1]
    exact e2
/-- the law's loop over its draws -/
theorem lawF_ok {i n : Nat} {a : Addr} {ns : List Int} {F : Rho → Option Out} (hn : n ≤ 63) (J : Rho → Prop) (hJ : ∀ ρ, J ρ → ρ[0]? = some (.raw (.ref a))) (h : ∀ bs ρ, Bag 100000 bs → J ρ → ∃ ρ', F (ρ.set i (.own bs)) = some (.nx ρ') ∧ J ρ') {ρ : Rho} (j : J ρ) :
    ∃ ρ', lawF i 0 n a ns F ρ = some (.nx ρ') ∧ J ρ' := by
  have hl : (cellsOf ns n).length ≤ 64 := by unfold cellsOf; rw [List.length_append, List.length_take]; simp; omega
  obtain ⟨ρ', e, j'⟩ := lawL_ok (i := i) (F := F) J (bagsL 0 (cellsOf ns n)) (fun c hc ρ j => h _ ρ (bags_bag _ 0 100000 (by omega) c hc) j) ρ j
  refine ⟨ρ', ?_, j'⟩
  unfold lawF
  rw [hJ ρ j]
  simp only [if_true]
  exact e
theorem seq_nx {F G : Rho → Option Out} {ρ ρ1 : Rho} {r : Option Out} (h : F ρ = some (.nx ρ1)) (h2 : G ρ1 = r) : seqF F G ρ = r := by
  simp [seqF, h, h2]
theorem pick2 {a b r : Int} (h0 : 0 ≤ r) (h : r < 2) : ∃ m, atI [PyData.int a, .int b] r = some (.int m) ∧ (m = a ∨ m = b) := by
  rcases (show r = 0 ∨ r = 1 by omega) with rfl | rfl
  · exact ⟨a, by simp, .inl rfl⟩
  · exact ⟨b, by simp, .inr rfl⟩
theorem pick3 {a b c r : Int} (h0 : 0 ≤ r) (h : r < 3) : ∃ m, atI [PyData.int a, .int b, .int c] r = some (.int m) ∧ (m = a ∨ m = b ∨ m = c) := by
  rcases (show r = 0 ∨ r = 1 ∨ r = 2 by omega) with rfl | rfl | rfl
  · exact ⟨a, by simp, .inl rfl⟩
  · exact ⟨b, by simp, .inr (.inl rfl)⟩
  · exact ⟨c, by simp, .inr (.inr rfl)⟩
theorem pick4 {a b c d r : Int} (h0 : 0 ≤ r) (h : r < 4) : ∃ m, atI [PyData.int a, .int b, .int c, .int d] r = some (.int m) ∧ (m = a ∨ m = b ∨ m = c ∨ m = d) := by
  rcases (show r = 0 ∨ r = 1 ∨ r = 2 ∨ r = 3 by omega) with rfl | rfl | rfl | rfl
  · exact ⟨a, by simp, .inl rfl⟩
  · exact ⟨b, by simp, .inr (.inl rfl)⟩
  · exact ⟨c, by simp, .inr (.inr (.inl rfl))⟩
  · exact ⟨d, by simp, .inr (.inr (.inr rfl))⟩
end DL

/-! ## enumerate of a tuple -/
namespace DL
open PySem
set_option maxHeartbeats 1000000 in
theorem meets_enumerate_new1 {v : Value} {o : Obj} {H : Heap → Prop} (B : Begins v o H) :
    Meets (Builtin.«enumerate.__new__» ⟨[.type "enumerate", v], []⟩) (fun _ R s => H s.heap ∧
      R (.ok (.ret (.ref (s.heap.push o).objs.size))) { s with heap := (s.heap.push o).push { cls := .type "enumerate", data := .fields #[.none, .bool false, .ref s.heap.objs.size, rawInt 0, .none, .none] } }) :=
  .of_wp fun prog w A R s h => by
    obtain ⟨hp, g, d, tk, os⟩ := s
    obtain ⟨h1, h⟩ := h
    have hsub := sub_enumerate
    have q1 : ∀ {A' : Around} {E : Value → Shared → Prop} {Q : Value → Shared → Prop}, Q (.ref hp.objs.size) ⟨hp.push o, g, d, tk, os⟩ → wpAny (model prog w) A' (pyIter v) Q E ⟨hp, g, d, tk, os⟩ :=
      fun q => B.iter prog w _ _ ⟨hp, g, d, tk, os⟩ _ h1 q
    wp_walk using q1
    refine wpAny_stack_any fun st => wpAny_pure ?_
    split
    · rename_i c _ _ _ _ _
      cases (c == Value.type "enumerate")
      · wp_walk using q1
        exact ⟨_, rfl, h⟩
      · wp_walk using q1
        exact ⟨_, rfl, h⟩
    · wp_walk using q1
      exact ⟨_, rfl, h⟩
theorem enum_begins1 {prog : Program} {w : World} {A : Around} {E : Value → Shared → Prop} {s : Shared} {v : Value} {o : Obj} {H : Heap → Prop} {Q : Value → Shared → Prop} (B : Begins v o H) (h1 : H s.heap)
    (h : ∀ h', IsEnum h' (s.heap.objs.size + 1) s.heap.objs.size 0 .none → h'.get? s.heap.objs.size = some o → h'.objs.size = s.heap.objs.size + 2 →
      (∀ b o, s.heap.get? b = some o → h'.get? b = some o) → Q (.ref (s.heap.objs.size + 1)) { s with heap := h' }) :
    wpAny (model prog w) A (call (.type "enumerate") [v]) Q E s := by
  refine callType_new F.called_enumerate (by decide) (F.typeCall_enumerate_1 _) (F.newCall_enumerate_1 _) (fun obj => F.args_object_init_2 obj _) F.entry_enumerate_new
    (meets_enumerate_new1 B) ⟨h1, ?_⟩
  have hz : (s.heap.push o).objs.size = s.heap.objs.size + 1 := Heap.size_push ..
  show _ ∧ _
  rw [hz]
  have he : IsEnum ((s.heap.push o).push { cls := .type "enumerate", data := .fields #[.none, .bool false, .ref s.heap.objs.size, rawInt 0, .none, .none] }) (s.heap.objs.size + 1) s.heap.objs.size 0 .none := by
    have := Heap.get?_push_size (s.heap.push o) (o := { cls := .type "enumerate", data := .fields #[.none, .bool false, .ref s.heap.objs.size, rawInt 0, .none, .none] }) rfl
    rw [hz] at this
    exact this
  exact ⟨⟨_, he, rfl⟩, h _ he (Heap.get?_push_of_some _ (Heap.get?_push_size _ B.free)) (by rw [Heap.size_push, hz]) fun b o x => Heap.get?_push_of_some _ (Heap.get?_push_of_some _ x)⟩
end DL
namespace DL
open PySem PySem.Spec
open PyProof.Rows hiding St
open L2
/-- the tuple at a, each item in a new pair -/
def ItEn (K : PySem.W.Frag) (a : Addr) : It :=
  ⟨fun i H => ∃ (xs : List V) (x : V), SqT K H a xs ∧ xs[i]? = some x, fun i H v H' => ∃ T x, v = .ref T ∧ H T = none ∧ H' = upd H T (.tup [.int (i : Nat), x]) ∧ ∀ xs, SqT K H a xs → xs[i]? = some x, fun i H => ∃ xs : List V, SqT K H a xs ∧ xs.length ≤ i⟩
theorem turn_enumT {P : Program} {w : World} {K : PySem.W.Frag} {elts : List Expr} {kk : Nat} {tpos : Pos} (a e it : Addr) (hae : a ≠ it) :
    Turn P w K (.Tuple elts kk tpos) (ItEn K a) [e, it] e (fun i h => (∃ old, IsEnum h e it ((i : Nat) : Int) old) ∧ h.IsTupleIter it a i ∧ e ≠ it) where
  mem := by simp
  obj := fun i h st b hb => by
    obtain ⟨⟨old, he⟩, ⟨o, ho, hc, hd⟩, _⟩ := st
    have e' : b = e ∨ b = it := by simpa using hb
    rcases e' with z | z
    · rw [z]; exact ⟨_, he, fun v q => nomatch q⟩
    · rw [z]; exact ⟨o, ho, fun v q => by rw [hd] at q; cases q⟩
  keep := fun i h h' st k => let ⟨⟨old, he⟩, hi, hne⟩ := st; ⟨⟨old, k e (by simp) _ he⟩, hi.at fun o q => k it (by simp) o q, hne⟩
  item := by
    intro X hP hw hK hc i pins s σ H E I hf st hg
    subst hP hw hK
    obtain ⟨⟨old, he⟩, hit, hne⟩ := st
    obtain ⟨xs, x, hq, hx⟩ := hg
    obtain ⟨its, rv, p, hz⟩ := I.tuple hq
    obtain ⟨u, hu, ru⟩ := rv.get hx
    have hel : e < s.heap.objs.size := Heap.lt_size he
    have hil : it < s.heap.objs.size := by obtain ⟨_, q, _⟩ := hit; exact Heap.lt_size q
    have hea : e ≠ a := fun z => by
      obtain ⟨o, ho, hco, _⟩ := p
      rw [← z] at ho
      rw [he] at ho
      cases ho
      exact absurd (Value.type.inj hco) (by decide)
    have pt : s.heap.IsTuple a its.toArray := p
    have hi : i < its.toArray.size := by
      have := (List.getElem?_eq_some_iff.mp hu).1
      simpa using this
    refine wpAny_pyNext_enum_itemD (Draws.tuple (show X.A.in1.handled = none from I.ok.hd hc) it a hae its.toArray) he ⟨hit, pt⟩ hi hne (by simp [hne, hea]) fun y h' tk hy ho hst hT hsz hk => ?_
    obtain ⟨hit', _⟩ := hst
    have ey : y = u := by
      have hu' : its.toArray[i]? = some u := by simpa using hu
      rw [hu'] at hy
      exact (Option.some.inj hy).symm
    subst ey
    refine ⟨_, rfl, wpAny_letOwnedTupleGo_enum (s := { s with heap := h', toks := tk + 1 }) ho fun h'' he' sb => ?_⟩
    have hT2 : h''.get? s.heap.objs.size = some { cls := .type "tuple", data := .seq #[.int i tk, y] } := (sb.2 _ (Nat.ne_of_gt hel)).trans hT
    have new : ObjOk X.prog X.w (upd H s.heap.objs.size (.tup [.int (i : Nat), x])) h'' s.heap.objs.size (.tup [.int (i : Nat), x]) :=
      ⟨by show 2 ≤ sizeLine; decide, [.int i tk, y], .cons ⟨_, rfl⟩ (.cons ru .nil), ⟨_, hT2, rfl, _, rfl⟩⟩
    have I1 : Inv X pins σ (upd H s.heap.objs.size (.tup [.int (i : Nat), x])) { s with heap := h'', toks := tk + 1 } :=
      I.turnedNew (ch := [e, it]) (fun b ob hb q => (sb.2 b (fun z => hb (by simp [z]))).trans (hk b ob (fun z => hb (by simp [z])) (fun z => hb (by simp [z])) q)) hf (Nat.le_refl _) new
    refine ⟨.ref s.heap.objs.size, _, I1, rfl, ⟨_, x, rfl, I.hok.fresh (Nat.le_refl _), rfl, fun ys hy => by rw [I.tuple_inj hy hq]; exact hx⟩, ⟨⟨y, ?_⟩, hit'.at fun o q => (sb.2 it (Ne.symm hne)).trans q, hne⟩, fun b hb => ?_⟩
    · have e1 : ((i + 1 : Nat) : Int) = (i : Int) + 1 := by omega
      rw [e1]; exact he'
    · have hb' : b < s.heap.objs.size := by
        have e' : b = e ∨ b = it := by simpa using hb
        rcases e' with z | z
        · rw [z]; exact hel
        · rw [z]; exact hil
      rw [upd_ne (Nat.ne_of_lt hb')]
      exact (hf b hb).1
  done := by
    intro X hP hw hK hc i pins s σ H E I hf st hg
    subst hP hw hK
    obtain ⟨⟨old, he⟩, hit, hne⟩ := st
    obtain ⟨xs, hq, hx⟩ := hg
    obtain ⟨its, rv, p, hz⟩ := I.tuple hq
    obtain ⟨f0, f1, f2, f3, f4, f5⟩ := hf it (by simp)
    have hl := rv.length
    have pt : s.heap.IsTuple a its.toArray := p
    unfold pyNext
    have hT : s.TypeIs (.ref e) "enumerate" := ⟨_, he, rfl⟩
    refine wpAny_bind (wpAny_attempt (wpAny_callSpecial?_slot (name := Str.ofString "__next__") hT F.slot_enumerate_next
      (wpAny_call_entry F.slot_enumerate_next hT F.entry_enumerate_next ?_ (F.args_enumerate_next_1 _))))
    show wpAny _ _ (field (.ref e) 2 >>= _) _ _ _
    refine wpAny_bind (wpAny_field he rfl (x := .ref it) rfl ?_)
    refine wpAny_bind (wpAny_nextOf_tuple_end (I.ok.hd hc) hit pt (by simp; omega) fun h' x he' hx' => ?_)
    obtain ⟨o, ho, hco⟩ := hx'
    refine wpAny_bind (wpAny_isInstance (T := "StopIteration") (b := true) ⟨o, ho, hco⟩ isSubtype_stop ?_)
    exact wpAny_pure ⟨rfl, I.turned (t' := s.toks) (fun b o hb q => he' b o hb q) f0 f1 f3 f4 f5⟩
  self := fun A i s Q E st h => let ⟨⟨_, he⟩, _⟩ := st; wpAny_pyIter_enum he h
def iEnT (K : PySem.W.Frag) (ta : TA) : TI := fun σ H R => ta σ H fun vs H1 => ∃ a xs, vs = [.ref a] ∧ SqT K H1 a xs ∧ R (ItEn K a) H1
theorem pi_enT {X : Cx} {e : Expr} {ta : TA} {p pos tpos : Pos} {elts : List Expr} {kk : Nat} (hg : Gl X "enumerate") (hm : X.mg "enumerate" = none) (ha : PA X [e] ta) (hs : starEach [e] X.env = [(false, eval e X.env)] := by rfl) :
    PI X (.Tuple elts kk tpos) (.Call (.Name "enumerate" p) [e] [] pos) (iEnT X.K ta) := by
  refine ⟨fun pins s σ H R I h => ?_⟩
  refine Call_ (ld_blt I hg hm boot_enumerate (PyProof.Rows.callWith_type1 (thn (ha.run pos pins s σ H _ I h) fun us s1 ⟨vs, H1, I1, r1, q1⟩ => ?_) hs rfl))
  obtain ⟨a, xs, ex, hq, q⟩ := q1
  subst ex
  cases r1 with
  | cons r rr =>
    cases rr
    cases r
    obtain ⟨its, rv, p', hz⟩ := I1.tuple hq
    have pt : s1.heap.IsTuple a its.toArray := p'
    refine enum_begins1 (begins_tuple a its.toArray) pt fun h' he hit hsz hk => wpAny_pyIter_enum he ?_
    have I2 : Inv X pins σ H1 { s1 with heap := h' } := I1.kept (t' := s1.toks) hk
    have hlt : a < s1.heap.objs.size := by obtain ⟨o, ho, _⟩ := pt; exact Heap.lt_size ho
    refine ⟨s1.heap.objs.size + 1, [s1.heap.objs.size + 1, s1.heap.objs.size], _, _, H1, rfl, I2, turn_enumT a (s1.heap.objs.size + 1) s1.heap.objs.size (Nat.ne_of_lt hlt), ⟨⟨.none, he⟩, ⟨_, hit, rfl, rfl⟩, Nat.succ_ne_self _⟩, fun b hb => ?_, q⟩
    have e' : b = s1.heap.objs.size + 1 ∨ b = s1.heap.objs.size := by simpa using hb
    have hle : s1.heap.objs.size ≤ b := by
      rcases e' with z | z
      · rw [z]; exact Nat.le_add_right _ _
      · rw [z]; exact Nat.le_refl _
    exact I1.fpOk hle (I1.hok.fresh hle)
end DL

namespace DL
open PySem PySem.Spec
open PyProof.Rows hiding St
open L2
/-! ## enumerate, zip as sources -/
def pairD (d e : D) : D := .tuple [d, e]
def enumL : Nat → List D → List D
  | _, [] => []
  | k, d :: ds => .tuple [.int (k : Int), d] :: enumL (k + 1) ds
def zipL : List D → List D → List D
  | d :: ds, e :: es => .tuple [d, e] :: zipL ds es
  | _, _ => []
theorem enumL_get : ∀ (ds : List D) (k i : Nat), (enumL k ds)[i]? = (ds[i]?).map fun d => .tuple [.int ((k + i : Nat) : Int), d]
  | [], k, i => by simp [enumL]
  | d :: ds, k, 0 => by simp [enumL]
  | d :: ds, k, i + 1 => by
    simp only [enumL, List.getElem?_cons_succ]
    rw [enumL_get ds (k + 1) i]
    congr 1
    funext d
    congr 3
    omega
theorem enumL_len : ∀ (ds : List D) (k : Nat), (enumL k ds).length = ds.length
  | [], k => rfl
  | d :: ds, k => by simp [enumL, enumL_len ds (k + 1)]
theorem zipL_get : ∀ (ds es : List D) (i : Nat) (d e : D), ds[i]? = some d → es[i]? = some e → (zipL ds es)[i]? = some (.tuple [d, e])
  | [], es, i, d, e, h, _ => by simp at h
  | d :: ds, [], i, _, _, _, h => by simp at h
  | d :: ds, e :: es, 0, d', e', h, h' => by
    simp at h h'
    simp [zipL, h, h']
  | d :: ds, e :: es, i + 1, d', e', h, h' => by
    simp only [List.getElem?_cons_succ] at h h'
    simp only [zipL, List.getElem?_cons_succ]
    exact zipL_get ds es i d' e' h h'
theorem zipL_len : ∀ (ds es : List D), (zipL ds es).length = min ds.length es.length
  | [], es => by simp [zipL]
  | d :: ds, [] => by simp [zipL]
  | d :: ds, e :: es => by simp [zipL, zipL_len ds es]
@[simp] def enI (g : Rho → Option D) : Rho → Option (List D) := fun ρ => (g ρ).bind fun d => (seqD d).bind fun ds => some (enumL 0 ds)
@[simp] def zip2 : D → D → Option (List D)
  | .list ds, .list es => some (zipL ds es)
  | .tuple ds, .tuple es => some (zipL ds es)
  | _, _ => none
@[simp] def zipI (ga gb : Rho → Option D) : Rho → Option (List D) := fun ρ => (ga ρ).bind fun d => (gb ρ).bind fun e => zip2 d e
theorem src_enT {K : PySem.W.Frag} {O : Addr → Prop} {H : Hp} {a : Addr} {vs : List V} {ds : List D} (ha : H a = some (.tup vs)) (r : RepL O H ds vs) : Src O H (ItEn K a) (enumL 0 ds) := by
  refine ⟨fun O H => H a = some (.tup vs) ∧ RepL O H ds vs, ⟨ha, r⟩, fun O H O' H' m ⟨h2, h3⟩ => ⟨m.keep a _ h2 (.inl fun us z => by cases z), RepL.mv m _ _ h3⟩, fun i O H hi ⟨h2, h3⟩ => ?_, fun O H ⟨h2, h3⟩ => ?_, fun i O H x H' hi _ ⟨h2, h3⟩ y => ?_⟩
  · rw [enumL_len] at hi
    have hl := h3.length
    exact ⟨vs, vs[i], .of h2, by simp [← hl, hi]⟩
  · rw [enumL_len]
    exact ⟨vs, .of h2, by rw [h3.length]; exact Nat.le_refl _⟩
  · obtain ⟨T, x1, rfl, hT, rfl, yx⟩ := y
    obtain ⟨d, e1, r1⟩ := h3.getV (yx vs (.of h2))
    refine ⟨.tuple [.int (i : Int), d], by rw [enumL_get, e1, Nat.zero_add]; rfl, same_upd hT, ?_⟩
    exact rep_tup hT (.cons (rep_int.mpr rfl) (.cons r1 .nil))
theorem src_enL {K : PySem.W.Frag} {O : Addr → Prop} {H : Hp} {a : Addr} {vs : List V} {ds : List D} (no : ¬ O a) (ha : H a = some (.lst vs)) (r : RepL O H ds vs) : Src O H (Ite K a) (enumL 0 ds) := by
  refine ⟨fun O H => ¬ O a ∧ H a = some (.lst vs) ∧ RepL O H ds vs, ⟨no, ha, r⟩, fun O H O' H' m ⟨h1, h2, h3⟩ => ⟨fun z => ?_, m.keep a _ h2 (.inr h1), RepL.mv m _ _ h3⟩, fun i O H hi ⟨h1, h2, h3⟩ => ?_, fun O H ⟨h1, h2, h3⟩ => ?_, fun i O H x H' hi _ ⟨h1, h2, h3⟩ y => ?_⟩
  · rcases m.out a z with q | q
    · exact h1 q
    · rw [h2] at q; cases q
  · rw [enumL_len] at hi
    have hl := h3.length
    exact ⟨vs, vs[i], .of h2, by simp [← hl, hi]⟩
  · rw [enumL_len]
    exact ⟨vs, .of h2, by rw [h3.length]; exact Nat.le_refl _⟩
  · obtain ⟨T, x1, rfl, hT, rfl, yx⟩ := y
    obtain ⟨d, e1, r1⟩ := h3.getV (yx vs (.of h2))
    refine ⟨.tuple [.int (i : Int), d], by rw [enumL_get, e1, Nat.zero_add]; rfl, same_upd hT, ?_⟩
    exact rep_tup hT (.cons (rep_int.mpr rfl) (.cons r1 .nil))
theorem src_zip {O : Addr → Prop} {H : Hp} {J : It} {S1 S2 : Hp → List V → Prop} {vs ws : List V} {ds es : List D} {G1 G2 : (Addr → Prop) → Hp → Prop} (h1 : G1 O H) (h2 : G2 O H) (m1 : ∀ O H O' H', Mv O H O' H' → G1 O H → G1 O' H') (m2 : ∀ O H O' H', Mv O H O' H' → G2 O H → G2 O' H')
    (k1 : ∀ O H, G1 O H → S1 H vs ∧ RepL O H ds vs) (k2 : ∀ O H, G2 O H → S2 H ws ∧ RepL O H es ws)
    (go : ∀ i H x y, S1 H vs → S2 H ws → vs[i]? = some x → ws[i]? = some y → J.go i H) (st : ∀ i H, S1 H vs → S2 H ws → (vs.length ≤ i ∨ ws.length ≤ i) → J.stop i H)
    (yl : ∀ i H v H', S1 H vs → S2 H ws → J.yld i H v H' → ∃ T x y, v = .ref T ∧ H T = none ∧ H' = upd H T (.tup [x, y]) ∧ vs[i]? = some x ∧ ws[i]? = some y) : Src O H J (zipL ds es) := by
  refine ⟨fun O H => G1 O H ∧ G2 O H, ⟨h1, h2⟩, fun O H O' H' m ⟨a, b⟩ => ⟨m1 _ _ _ _ m a, m2 _ _ _ _ m b⟩, fun i O H hi ⟨a, b⟩ => ?_, fun O H ⟨a, b⟩ => ?_, fun i O H x H' hi _ ⟨a, b⟩ y => ?_⟩
  · rw [zipL_len] at hi
    obtain ⟨s1, r1⟩ := k1 _ _ a
    obtain ⟨s2, r2⟩ := k2 _ _ b
    have l1 := r1.length
    have l2 := r2.length
    exact go i H vs[i] ws[i] s1 s2 (List.getElem?_eq_getElem (by omega)) (List.getElem?_eq_getElem (by omega))
  · obtain ⟨s1, r1⟩ := k1 _ _ a
    obtain ⟨s2, r2⟩ := k2 _ _ b
    have l1 := r1.length
    have l2 := r2.length
    rw [zipL_len]
    exact st _ H s1 s2 (by omega)
  · obtain ⟨s1, r1⟩ := k1 _ _ a
    obtain ⟨s2, r2⟩ := k2 _ _ b
    obtain ⟨T, x1, x2, rfl, hT, rfl, e1, e2⟩ := yl i H x H' s1 s2 y
    obtain ⟨d, f1, q1⟩ := r1.getV e1
    obtain ⟨e, f2, q2⟩ := r2.getV e2
    exact ⟨_, zipL_get ds es i d e f1 f2, same_upd hT, rep_tup hT (.cons q1 (.cons q2 .nil))⟩
section
variable {X : Cx} {B : Base} {e e2 : Expr} {g g2 : Rho → Option D} {pos p tpos : Pos} {elts : List Expr} {kk : Nat}
theorem di_enum (hm : X.mg "enumerate" = none) (h : DP X B .str e g) (hg : Gl X "enumerate" := by rfl) (hs : starEach [e] X.env = [(false, eval e X.env)] := by rfl) (hs' : starEach [e] X.env = (false, eval e X.env) :: starEach [] X.env := by rfl) : DI X B (.Tuple elts kk tpos) (.Call (.Name "enumerate" p) [e] [] pos) (enI g) :=
  ⟨((pi_enum hg hm (pa_cons h.pe pa_nil hs') hs).or (pi_enT hg hm (pa_cons h.pe pa_nil hs') hs)).imp fun σ H R ⟨O, ρ, ds, gd, e, q⟩ => by
    obtain ⟨d, e1, e2⟩ := bind_some e
    obtain ⟨es, e3, e4⟩ := bind_some e2
    cases e4
    unfold seqD at e3
    split at e3
    · cases e3
      refine .inl ⟨O, ρ, _, gd, e1, fun v H1 s1 r1 => ?_⟩
      simp only [Rep] at r1
      obtain ⟨a, vs, rfl, no, ha, r⟩ := r1
      exact ⟨a, vs, rfl, .of ha, q _ H1 s1 (src_enL no ha r)⟩
    · cases e3
      refine .inr ⟨O, ρ, _, gd, e1, fun v H1 s1 r1 => ?_⟩
      simp only [Rep] at r1
      obtain ⟨a, vs, rfl, ha, r⟩ := r1
      exact ⟨a, vs, rfl, .of ha, q _ H1 s1 (src_enT ha r)⟩
    · cases e3⟩
theorem di_zip (hm : X.mg "zip" = none) (h : DP X B .str e g) (h2 : DP X B .str e2 g2) (hg : Gl X "zip" := by rfl) (hs : starEach [e, e2] X.env = (false, eval e X.env) :: starEach [e2] X.env := by rfl) (hs2 : starEach [e2] X.env = (false, eval e2 X.env) :: starEach [] X.env := by rfl) (hpl : (backTo pos (starEach [e2] X.env)).any (·.1) = false := by rfl) :
    DI X B (.Tuple elts kk tpos) (.Call (.Name "zip" p) [e, e2] [] pos) (zipI g g2) :=
  ⟨(RZ.pi_zipA hg hm (pa_cons h.pe (pa_cons h2.pe pa_nil hs2) hs) hs hpl).imp fun σ H R ⟨O, ρ, ds, gd, e, q⟩ => by
    obtain ⟨d1, e1, e'⟩ := bind_some e
    obtain ⟨d2, e2, e3⟩ := bind_some e'
    refine ⟨O, ρ, d1, gd, e1, fun v H1 s1 r1 => ⟨O, ρ, d2, gd.same s1, e2, fun w H2 s2 r2 => ?_⟩⟩
    have r1 := r1.same s2
    unfold zip2 at e3
    split at e3
    · cases e3
      simp only [Rep] at r1 r2
      obtain ⟨a, vs, rfl, no, ha, r1⟩ := r1
      obtain ⟨b, ws, rfl, no2, hb, r2⟩ := r2
      refine ⟨a, b, vs, ws, rfl, .inl ⟨.of ha, .of hb, q _ H2 (s1.trans s2) ?_⟩⟩
      refine src_zip (S1 := fun H xs => H a = some (.lst xs)) (S2 := fun H xs => H b = some (.lst xs)) (G1 := fun O H => ¬ O a ∧ H a = some (.lst vs) ∧ RepL O H _ vs) (G2 := fun O H => ¬ O b ∧ H b = some (.lst ws) ∧ RepL O H _ ws) ⟨no, ha, r1⟩ ⟨no2, hb, r2⟩
        (fun O H O' H' m ⟨h1, h2, h3⟩ => ⟨fun z => (m.out a z).elim h1 (fun q => by rw [h2] at q; cases q), m.keep a _ h2 (.inr h1), RepL.mv m _ _ h3⟩)
        (fun O H O' H' m ⟨h1, h2, h3⟩ => ⟨fun z => (m.out b z).elim h1 (fun q => by rw [h2] at q; cases q), m.keep b _ h2 (.inr h1), RepL.mv m _ _ h3⟩)
        (fun O H h => h.2) (fun O H h => h.2) (fun i H x y h1 h2 e1 e2 => ⟨vs, ws, x, y, .of h1, .of h2, e1, e2⟩) (fun i H h1 h2 h => ⟨vs, ws, .of h1, .of h2, h⟩) fun i H v H' h1 h2 y => ?_
      obtain ⟨T, x, y, h3, h4, h5, h6, h7⟩ := y
      exact ⟨T, x, y, h3, h4, h5, h6 vs (.of h1), h7 ws (.of h2)⟩
    · cases e3
      simp only [Rep] at r1 r2
      obtain ⟨a, vs, rfl, ha, r1⟩ := r1
      obtain ⟨b, ws, rfl, hb, r2⟩ := r2
      refine ⟨a, b, vs, ws, rfl, .inr ⟨.of ha, .of hb, q _ H2 (s1.trans s2) ?_⟩⟩
      refine src_zip (S1 := fun H xs => H a = some (.tup xs)) (S2 := fun H xs => H b = some (.tup xs)) (G1 := fun O H => H a = some (.tup vs) ∧ RepL O H _ vs) (G2 := fun O H => H b = some (.tup ws) ∧ RepL O H _ ws) ⟨ha, r1⟩ ⟨hb, r2⟩
        (fun O H O' H' m ⟨h2, h3⟩ => ⟨m.keep a _ h2 (.inl fun us z => by cases z), RepL.mv m _ _ h3⟩)
        (fun O H O' H' m ⟨h2, h3⟩ => ⟨m.keep b _ h2 (.inl fun us z => by cases z), RepL.mv m _ _ h3⟩)
        (fun O H h => h) (fun O H h => h) (fun i H x y h1 h2 e1 e2 => ⟨vs, ws, x, y, .of h1, .of h2, e1, e2⟩) (fun i H h1 h2 h => ⟨vs, ws, .of h1, .of h2, h⟩) fun i H v H' h1 h2 y => ?_
      obtain ⟨T, x, y, h3, h4, h5, h6, h7⟩ := y
      exact ⟨T, x, y, h3, h4, h5, h6 vs (.of h1), h7 ws (.of h2)⟩
    · cases e3⟩
end
/-! ## comprehensions -/
def SrcC (O : Addr → Prop) (H : Hp) (J : It) (ds : List D) : Prop := ∀ O' H', Same H H' → (∀ b, O' b → O b ∨ H b = none) → Otr O' H' → (∀ i, i < ds.length → J.go i H') ∧ J.stop ds.length H' ∧
  ∀ i x H2, i < ds.length → J.yld i H' x H2 → ∃ d, ds[i]? = some d ∧ Same H' H2 ∧ Rep O' H2 d x
def tItC (B : Base) (gs : Rho → Option (List D)) : TI := fun σ H R => ∃ O ρ ds, Good B O σ H ρ ∧ gs ρ = some ds ∧ ∀ J H', Same H H' → SrcC O H' J ds → R J H'
structure DIC (X : Cx) (B : Base) (tg e : Expr) (gs : Rho → Option (List D)) : Prop where
  pi : PI X tg e (tItC B gs)
structure DTs (X : Cx) (B : Base) (ifs : List Expr) (g : Rho → Option Bool) : Prop where
  pts : PTs X ifs (tPT B g)
@[simp] def yesT : Rho → Option Bool := fun _ => some true
def wipeR (ρ : Rho) : List Nat → Rho
  | [] => ρ
  | v :: vs => (wipeR ρ vs).set v .nil
def compL (b : D → Rho → Option Rho) (t : Rho → Option Bool) (g : Rho → Option D) (ρ : Rho) : List D → Option (List D)
  | [] => some []
  | d :: ds => (b d ρ).bind fun ρ1 => (t ρ1).bind fun c => if c = true then (g ρ1).bind fun e => (compL b t g ρ ds).bind fun es => some (e :: es) else compL b t g ρ ds
@[simp] def lcD (gs : Rho → Option (List D)) (vs : List Nat) (b : D → Rho → Option Rho) (t : Rho → Option Bool) (g : Rho → Option D) : Rho → Option D := fun ρ => (gs ρ).bind fun ds => if ds.length ≤ 100000 then (compL b t g (wipeR ρ vs) ds).bind fun es => some (.list es) else none
theorem Src.toC {O : Addr → Prop} {H : Hp} {J : It} {ds : List D} (s : Src O H J ds) : SrcC O H J ds := by
  obtain ⟨G, g0, gm, ggo, gst, gy⟩ := s
  intro O' H' sm out t
  have g1 := gm O H O' H' ⟨fun b o e _ => sm b o e, out⟩ g0
  exact ⟨fun i hi => ggo i O' H' hi g1, gst O' H' g1, fun i x H2 hi y => gy i O' H' x H2 hi t g1 y⟩
section
variable {B : Base} {O : Addr → Prop} {σ : St} {H H' : Hp} {ρ : Rho}
theorem Good.setNil (g : Good B O σ H ρ) (i : Nat) : Good B O (σ.set i Option.none) H (ρ.set i .nil) ∧ ∀ b, Wof (σ.set i Option.none) (ρ.set i .nil) b → Wof σ ρ b := by
  have hw : ∀ (j : Nat) s, (ρ.set i .nil)[j]? = some s → isOwn s = true → i ≠ j ∧ ρ[j]? = some s := fun j s e q => by
    by_cases hj : i = j
    · subst hj
      by_cases hl : i < ρ.length
      · rw [List.getElem?_set_self hl] at e; cases e; cases q
      · rw [List.getElem?_eq_none (by simpa using hl)] at e; cases e
    · exact ⟨hj, by rw [get_set_ne hj] at e; exact e⟩
  refine ⟨⟨by simp [g.len], g.frame, g.o0, g.r0, g.osub, g.otrk, g.h0, fun j s e => ?_, fun j k s t b e1 e2 q1 q2 e3 e4 => ?_⟩, fun b ⟨j, s, e, q, e3⟩ => ?_⟩
  · by_cases hj : i = j
    · subst hj
      by_cases hl : i < ρ.length
      · rw [List.getElem?_set_self hl] at e
        cases e
        trivial
      · rw [List.getElem?_eq_none (by simpa using hl)] at e; cases e
    · rw [get_set_ne hj] at e
      rw [get_set_ne hj]
      exact g.slots j s e
  · obtain ⟨h1, k1⟩ := hw j s e1 q1
    obtain ⟨h2, k2⟩ := hw k t e2 q2
    rw [get_set_ne h1] at e3
    rw [get_set_ne h2] at e4
    exact g.sep j k s t b k1 k2 q1 q2 e3 e4
  · obtain ⟨h1, k1⟩ := hw j s e q
    rw [get_set_ne h1] at e3
    exact ⟨j, s, k1, q, e3⟩
theorem Good.wipe (g : Good B O σ H ρ) : ∀ vs : List Nat, Good B O (wipe σ vs) H (wipeR ρ vs) ∧ ∀ b, Wof (L2.wipe σ vs) (wipeR ρ vs) b → Wof σ ρ b
  | [] => ⟨g, fun _ h => h⟩
  | v :: vs => by
    obtain ⟨h1, h2⟩ := g.wipe vs
    obtain ⟨h3, h4⟩ := h1.setNil v
    exact ⟨h3, fun b h => h2 b (h4 b h)⟩
theorem wipe_eq : ∀ {vs : List Nat} {σ σ' : St}, σ'.length = σ.length → (∀ j, j ∉ vs → σ'[j]? = σ[j]?) → L2.wipe σ' vs = L2.wipe σ vs
  | [], σ, σ', _, h => by
    apply List.ext_getElem?
    intro j
    exact h j (by simp)
  | v :: vs, σ, σ', hl, h => by
    have hw : ∀ (us : List Nat) (τ : St) (j : Nat), (L2.wipe τ us)[j]? = if j ∈ us then (if j < τ.length then some none else none) else τ[j]? := by
      intro us
      induction us with
      | nil => intro τ j; simp [L2.wipe]
      | cons u us ih =>
        intro τ j
        show ((L2.wipe τ us).set u none)[j]? = _
        by_cases hj : u = j
        · subst hj
          simp only [List.mem_cons, true_or, if_true]
          by_cases hlt : u < τ.length
          · rw [List.getElem?_set_self (by rw [wipe_length]; exact hlt), if_pos hlt]
          · rw [List.getElem?_eq_none (by rw [List.length_set, wipe_length]; omega), if_neg hlt]
        · rw [List.getElem?_set_ne hj, ih τ j]
          have : (j ∈ u :: us) ↔ j ∈ us := by
            simp only [List.mem_cons]
            exact ⟨fun z => z.elim (fun e => absurd e.symm hj) id, .inr⟩
          simp only [this]
    apply List.ext_getElem?
    intro j
    rw [hw, hw, hl]
    split
    · rfl
    · next hn => exact h j hn
theorem wipe_wipe (σ : St) (vs : List Nat) : L2.wipe (L2.wipe σ vs) vs = L2.wipe σ vs := by
  refine wipe_eq (by rw [wipe_length]) fun j hj => wipe_out hj
/-- a change at a list that nothing but the builder holds -/
theorem Good.at (g : Good B O σ H ρ) {Dl : Addr} {us : List V} (hD : O Dl) (hB : B.H0 Dl = Option.none) (hW : ¬ Wof σ ρ Dl) (hl : ∃ vs, H Dl = some (.lst vs)) : Good B O σ (upd H Dl (.lst us)) ρ := by
  have mv : Mv O H O (upd H Dl (.lst us)) := ⟨fun b o e q => by
    rw [upd_ne]
    · exact e
    · rintro rfl
      obtain ⟨vs, h⟩ := hl
      rw [h] at e
      cases e
      rcases q with q | q
      · exact q vs rfl
      · exact q hD, fun _ h => .inl h⟩
  have ne : ∀ b, H b ≠ Option.none → upd H Dl (.lst us) b ≠ Option.none := fun b h => by
    by_cases e : b = Dl
    · rw [e]; exact some_ne upd_same
    · rw [upd_ne e]; exact h
  refine ⟨g.len, fun b o e n => ?_, g.o0, g.r0, g.osub, fun b h => ne b (g.otrk b h), fun b h => ne b (g.h0 b h), fun i t e => ?_, g.sep⟩
  · rw [upd_ne]
    · exact g.frame b o e n
    · rintro rfl
      rw [hB] at e; cases e
  · have k := g.slots i t e
    cases t with
    | nil => trivial
    | dat d => exact SlOk.mv mv rfl k
    | own ds =>
      obtain ⟨a, vs, e1, h1, h2, h3, h4, r⟩ := k
      have : a ≠ Dl := by rintro rfl; exact hW ⟨i, _, e, rfl, e1⟩
      exact ⟨a, vs, e1, h1, h2, h3, by rw [upd_ne this]; exact h4, RepL.mv mv _ _ r⟩
    | bag ds =>
      obtain ⟨a, vs, e1, h1, h2, h4, r⟩ := k
      have : a ≠ Dl := by rintro rfl; exact hW ⟨i, _, e, rfl, e1⟩
      exact ⟨a, vs, e1, h1, h2, by rw [upd_ne this]; exact h4, RepL.mv mv _ _ r⟩
    | raw v => exact k
end
theorem lc_imp {B : Base} {gs : Rho → Option (List D)} {vs is : List Nat} {b : D → Rho → Option Rho} {t : Rho → Option Bool} {g : Rho → Option D} (his : ∀ i ∈ is, i ∈ vs) {σ : St} {H : Hp} {Q : VK}
    (h : ∃ O ρ es, Good B O σ H ρ ∧ lcD gs vs b t g ρ = some (.list es) ∧ ∀ a us H', Same H H' → H a = none → H' a = some (.lst us) → RepL (fun b => O b ∨ b = a) H' es us → Q (.ref a) H') :
    tLc (tItC B gs) (tG B is b) (tPT B t) (tP B .str g) vs σ H Q := by
  obtain ⟨O, ρ, tot, gd, e, q⟩ := h
  obtain ⟨ds, e1, e2⟩ := bind_some e
  split at e2
  case isFalse => cases e2
  next hlen =>
  obtain ⟨es, e3, e4⟩ := bind_some e2
  cases e4
  refine ⟨O, ρ, ds, gd, e1, fun J H1 s1 src Dl hD => ?_⟩
  have g1 := gd.same s1
  obtain ⟨nD, nD0, hD0⟩ := g1.fresh hD
  have sD : Same H1 (upd H1 Dl (.lst [])) := same_upd hD
  obtain ⟨gw, ww⟩ := g1.wipe vs
  have g2 : Good B (fun b => O b ∨ b ∈ [Dl]) (wipe σ vs) (upd H1 Dl (.lst [])) (wipeR ρ vs) := gw.more sD (fun b hb => by
    have : b = Dl := by simpa using hb
    rw [this]; exact hD) fun b hb => by
    have : b = Dl := by simpa using hb
    rw [this]; exact some_ne upd_same
  have nW : ¬ Wof (wipe σ vs) (wipeR ρ vs) Dl := fun z => nD (gw.wof z).1
  refine ⟨fun i n Hi => n = ds.length - i ∧ i ≤ ds.length ∧ ∃ acc fs rest, Hi Dl = some (.lst acc) ∧ Same H1 Hi ∧ Good B (fun b => O b ∨ b ∈ [Dl]) (wipe σ vs) Hi (wipeR ρ vs) ∧ RepL (fun b => O b ∨ b = Dl) Hi fs acc ∧ acc.length ≤ i ∧ compL b t g (wipeR ρ vs) (ds.drop i) = some rest ∧ fs ++ rest = tot,
    ⟨ds.length, by simp, Nat.zero_le _, [], [], tot, upd_same, sD, g2, .nil, Nat.le_refl _, by simpa using e3, rfl⟩, ?_⟩
  rintro i n Hi ⟨rfl, hi, acc, fs, rest, hacc, sHi, gi, rfs, hal, ec, etot⟩
  obtain ⟨sgo, sst, sy⟩ := src (fun b => O b ∨ b ∈ [Dl]) Hi sHi (fun b h => h.elim .inl fun z => .inr (by
    have : b = Dl := by simpa using z
    rw [this]; exact hD)) gi.otrk
  by_cases hlt : i < ds.length
  · rw [List.drop_eq_getElem_cons hlt] at ec
    obtain ⟨ρ1, c1, c2⟩ := bind_some ec
    obtain ⟨k, c3, c4⟩ := bind_some c2
    refine .inr ⟨sgo i hlt, fun Hn => i + 1 ≤ ds.length ∧ ∃ acc fs rest, Hn Dl = some (.lst acc) ∧ Same H1 Hn ∧ Good B (fun b => O b ∨ b ∈ [Dl]) (wipe σ vs) Hn (wipeR ρ vs) ∧ RepL (fun b => O b ∨ b = Dl) Hn fs acc ∧ acc.length ≤ i + 1 ∧ compL b t g (wipeR ρ vs) (ds.drop (i + 1)) = some rest ∧ fs ++ rest = tot,
      fun Hn ⟨h1, h2⟩ => ⟨ds.length - (i + 1), by omega, rfl, h1, h2⟩, fun x H2 y => ?_⟩
    obtain ⟨d, ed, s2, rx⟩ := sy i x H2 hlt y
    have ed2 : ds[i] = d := by
      rw [List.getElem?_eq_getElem hlt] at ed
      exact Option.some.inj ed
    subst ed2
    refine ⟨_, wipeR ρ vs, _, ρ1, gi.same s2, rx, c1, fun σ2 g3 w3 hσ hl2 => ?_⟩
    have hDi : Hi Dl = some (.lst acc) := hacc
    have nW2 : ¬ Wof σ2 ρ1 Dl := fun z => nW (w3 Dl z)
    have szl : acc.length < sizeLine := by rw [sizeLine_eq]; omega
    refine ⟨(wipe_eq hl2 fun j hj => hσ j fun z => hj (his j z)).trans (wipe_wipe σ vs), (fun b => O b ∨ b ∈ [Dl]), ρ1, k, g3, c3, fun H3 s3 => ?_⟩
    have s13 : Same H1 H3 := (sHi.trans s2).trans s3
    cases k with
    | false =>
      refine ⟨hlt, acc, fs, rest, s3 _ _ (s2 _ _ hDi), s13, gi.same (s2.trans s3), rfs.same (s2.trans s3), by omega, c4, etot⟩
    | true =>
      obtain ⟨z, c5, c6⟩ := bind_some c4
      obtain ⟨rest', c7, c8⟩ := bind_some c6
      cases c8
      refine ⟨_, ρ1, z, g3.same s3, c5, fun yv H4 s4 ry => ?_⟩
      have hD4 : H4 Dl = some (.lst acc) := s4 _ _ (s3 _ _ (s2 _ _ hDi))
      refine ⟨acc, hD4, szl, hlt, acc ++ [yv], fs ++ [z], rest', upd_same, fun c o e => ?_, ?_, ?_, by rw [List.length_append]; simp; omega, c7, by rw [List.append_assoc]; exact etot⟩
      · rw [upd_ne (ne_of_none e hD)]
        exact s4 _ _ (s13 _ _ e)
      · exact (gi.same ((s2.trans s3).trans s4)).at (.inr (by simp)) hD0 nW ⟨acc, hD4⟩
      · have r0 : RepL (fun b => O b ∨ b = Dl) H4 (fs ++ [z]) (acc ++ [yv]) := (rfs.same ((s2.trans s3).trans s4)).append (.one (ry.less fun b h => h.elim .inl fun e => .inr (by simp [e])))
        refine RepL.mv ⟨fun b o e q => ?_, fun b h => .inl h⟩ _ _ r0
        rw [upd_ne]
        · exact e
        · rintro rfl
          rw [hD4] at e
          cases e
          rcases q with q | q
          · exact q acc rfl
          · exact q (.inr rfl)
  · have en : i = ds.length := by omega
    subst en
    rw [List.drop_length] at ec
    cases ec
    rw [List.append_nil] at etot
    subst etot
    have : RepL (fun b => O b ∨ b = Dl) Hi fs acc := rfs
    exact .inl ⟨sst, q Dl acc Hi (s1.trans sHi) (s1.free hD) hacc rfs⟩
end DL

namespace DL
open PySem PySem.Spec
open PyProof.Rows hiding St
open L2
/-! ## comprehensions -/
theorem lc_list {gs : Rho → Option (List D)} {vs : List Nat} {b : D → Rho → Option Rho} {t : Rho → Option Bool} {g : Rho → Option D} {ρ : Rho} {d : D} (h : lcD gs vs b t g ρ = some d) : ∃ es, d = .list es := by
  obtain ⟨ds, e1, e2⟩ := bind_some h
  split at e2
  · obtain ⟨es, e3, e4⟩ := bind_some e2
    cases e4
    exact ⟨es, rfl⟩
  · cases e2
theorem rep_fresh {O O' : Addr → Prop} {H' : Hp} {a : Addr} {us : List V} {es : List D} (no : ¬ O a) (s : ∀ b, O b → O' b) (h : H' a = some (.lst us)) (r : RepL O' H' es us) : Rep O H' (.list es) (.ref a) := by
  simp only [Rep]
  exact ⟨a, us, rfl, no, h, r.less s⟩
section
variable {X : Cx} {B : Base} {m : Md} {tg iter elt : Expr} {ifs : List Expr} {scope : Scope} {own : List (Str × Nat)} {is : List Nat} {pos : Pos} {gs : Rho → Option (List D)} {b : D → Rho → Option Rho} {t : Rho → Option Bool} {g : Rho → Option D}
theorem dts_nil : DTs X B [] yesT := ⟨⟨fun pins s σ H Q I ⟨O, ρ, c, gd, e, q⟩ => by
  cases e
  exact pts_nil.run pins s σ H Q I (q H (Same.refl H))⟩⟩
theorem dts_one {c : Expr} (h : DPT X B c t) : DTs X B [c] t := ⟨pts_one h.pt⟩
theorem dic_of (h : DI X B tg iter gs) : DIC X B tg iter gs := ⟨h.pi.imp fun σ H R ⟨O, ρ, ds, gd, e, q⟩ => ⟨O, ρ, ds, gd, e, fun J H' s sr => q J H' s sr.toC⟩⟩
theorem dp_lc (hc : X.calm = true) (hN : X.N.Nodup) (hi : DIC X B tg iter gs) (ok : BlkOk X.N X.env.scope scope own) (his : ∀ i ∈ is, i ∈ own.map (·.2))
    (hg : ∀ (s : Shared) (H : Hp) (C : Addr) (cl : List (Str × Addr)) (fp : List Addr), DG (X.blk s H scope (compEnvC scope cl C X.env) fp) B tg is b)
    (ht : ∀ (s : Shared) (H : Hp) (C : Addr) (cl : List (Str × Addr)) (fp : List Addr), DTs (X.blk s H scope (compEnvC scope cl C X.env) fp) B ifs t)
    (he : ∀ (s : Shared) (H : Hp) (C : Addr) (cl : List (Str × Addr)) (fp : List Addr), DP (X.blk s H scope (compEnvC scope cl C X.env) fp) B .str elt g) (hs : ∀ x, foldedSetIterable iter X.env x = pure x := by intro _; rfl) :
    DP X B m (.ListComp elt [⟨tg, iter, ifs, 0⟩] scope pos) (lcD gs (own.map (·.2)) b t g) :=
  ⟨(pe_lc hc hN hi.pi ok (fun s H C cl fp => (hg s H C cl fp).pg) (fun s H C cl fp => (ht s H C cl fp).pts) (fun s H C cl fp => (he s H C cl fp).pe) hs).imp fun σ H Q ⟨O, ρ, d, gd, e, q⟩ => by
    obtain ⟨es, rfl⟩ := lc_list e
    refine lc_imp his ⟨O, ρ, es, gd, e, fun a us H' s ha ha' r => q _ H' s ?_⟩
    obtain ⟨n1, n2, n3⟩ := gd.fresh ha
    exact rep_fresh (fun z => n1 (gd.mO m a z)) (fun c z => .inl (gd.mO m c z)) ha' r⟩
theorem ds_setLc {i : Nat} {y : Str} {py spos : Pos} (hc : X.calm = true) (hN : X.N.Nodup) (hy : X.N[i]? = some y) (hyl : X.env.scope.names.lookup y = some .local) (hsw : swapsWith (.ListComp elt [⟨tg, iter, ifs, 0⟩] scope pos) (some (.Name y py)) spos.line X.env = pure true)
    (hi : DIC X B tg iter gs) (ok : BlkOk X.N X.env.scope scope own) (his : ∀ i ∈ is, i ∈ own.map (·.2))
    (hg : ∀ (s : Shared) (H : Hp) (C : Addr) (cl : List (Str × Addr)) (fp : List Addr), DG (X.blk s H scope (compEnvC scope cl C X.env) fp) B tg is b)
    (ht : ∀ (s : Shared) (H : Hp) (C : Addr) (cl : List (Str × Addr)) (fp : List Addr), DTs (X.blk s H scope (compEnvC scope cl C X.env) fp) B ifs t)
    (he : ∀ (s : Shared) (H : Hp) (C : Addr) (cl : List (Str × Addr)) (fp : List Addr), DP (X.blk s H scope (compEnvC scope cl C X.env) fp) B .str elt g) (hs : ∀ x, foldedSetIterable iter X.env x = pure x := by intro _; rfl) :
    DS X B (.Assign [.Name y py] (.ListComp elt [⟨tg, iter, ifs, 0⟩] scope pos) spos) (setP i (lcD gs (own.map (·.2)) b t g)) :=
  ⟨(ps_setLc hc hN hy hyl hsw hi.pi ok (fun s H C cl fp => (hg s H C cl fp).pg) (fun s H C cl fp => (ht s H C cl fp).pts) (fun s H C cl fp => (he s H C cl fp).pe) hs).imp fun E σ H ⟨O, ρ, r, gd, e, q⟩ => by
    obtain ⟨d, e1, e2⟩ := bind_some e
    cases e2
    obtain ⟨es, rfl⟩ := lc_list e1
    refine lc_imp his ⟨O, ρ, es, gd, e1, fun a us H' s ha ha' r => ?_⟩
    obtain ⟨n1, n2, n3⟩ := gd.fresh ha
    have rr : Rep O H' (.list es) (.ref a) := rep_fresh n1 (fun c z => .inl z) ha' r
    obtain ⟨g2, w2⟩ := (gd.same s).set (i := i) rr
    exact q _ H' O ⟨.of s, fun _ h => .inl h, fun _ h => h, fun b h => .inl (w2 b h)⟩ g2⟩
theorem ds_ownLc {i : Nat} {y : Str} {py spos : Pos} (hc : X.calm = true) (hN : X.N.Nodup) (hy : X.N[i]? = some y) (hyl : X.env.scope.names.lookup y = some .local) (hsw : swapsWith (.ListComp elt [⟨tg, iter, ifs, 0⟩] scope pos) (some (.Name y py)) spos.line X.env = pure true)
    (hi : DIC X B tg iter gs) (ok : BlkOk X.N X.env.scope scope own) (his : ∀ i ∈ is, i ∈ own.map (·.2))
    (hg : ∀ (s : Shared) (H : Hp) (C : Addr) (cl : List (Str × Addr)) (fp : List Addr), DG (X.blk s H scope (compEnvC scope cl C X.env) fp) B tg is b)
    (ht : ∀ (s : Shared) (H : Hp) (C : Addr) (cl : List (Str × Addr)) (fp : List Addr), DTs (X.blk s H scope (compEnvC scope cl C X.env) fp) B ifs t)
    (he : ∀ (s : Shared) (H : Hp) (C : Addr) (cl : List (Str × Addr)) (fp : List Addr), DP (X.blk s H scope (compEnvC scope cl C X.env) fp) B .str elt g) (hs : ∀ x, foldedSetIterable iter X.env x = pure x := by intro _; rfl) :
    DS X B (.Assign [.Name y py] (.ListComp elt [⟨tg, iter, ifs, 0⟩] scope pos) spos) (setO i (lcD gs (own.map (·.2)) b t g)) :=
  ⟨(ps_setLc hc hN hy hyl hsw hi.pi ok (fun s H C cl fp => (hg s H C cl fp).pg) (fun s H C cl fp => (ht s H C cl fp).pts) (fun s H C cl fp => (he s H C cl fp).pe) hs).imp fun E σ H ⟨O, ρ, r, gd, e, q⟩ => by
    obtain ⟨d, e1, e2⟩ := bind_some e
    obtain ⟨es, rfl⟩ := lc_list e1
    cases e2
    refine lc_imp his ⟨O, ρ, es, gd, e1, fun a us H' s ha ha' r => ?_⟩
    obtain ⟨g2, s2⟩ := gd.setOwn (i := i) s ha ha' r
    exact q _ H' _ s2 g2⟩
end
/-! ## a list of one's own as a source -/
@[simp] def ownI (i : Nat) : Rho → Option (List D) := fun ρ => (ρ[i]?).bind fun t => (ownOf t).bind fun es => if immL es = true then some es else none
section
variable {X : Cx} {B : Base} {m : Md} {tg e : Expr} {g : Rho → Option D} {pos p p' : Pos}
theorem srcC_list {K : PySem.W.Frag} {O : Addr → Prop} {H : Hp} {a : Addr} {vs : List V} {ds : List D} (ha : H a = some (.lst vs)) (r : RepL O H ds vs) (hi : immL ds = true) : SrcC O H (Itl K a) ds := by
  intro O' H' s out t
  have hl := r.length
  have ha' := s a _ ha
  refine ⟨fun i hi => ⟨vs, vs[i], .of ha', by simp [← hl, hi]⟩, ⟨vs, .of ha', by rw [hl]; exact Nat.le_refl _⟩, fun i x H2 hi' y => ?_⟩
  obtain ⟨e, y⟩ := y
  subst e
  obtain ⟨d, e1, r1⟩ := (RepL.imm (O' := O') hi (r.same s)).getV (y vs (.of ha'))
  exact ⟨d, e1, Same.refl _, r1⟩
theorem dic_own {i : Nat} {x : Str} (hN : X.N[i]? = some x) (hv : Vis X.env.scope x := by first | exact Or.inl rfl | exact Or.inr (Or.inl rfl) | exact Or.inr (Or.inr rfl)) (hd : (x == ("__debug__" : Str)) = false := by decide)
    (hcd : (x == ("__classdict__" : Str)) = false := by decide) : DIC X B tg (.Name x pos) (ownI i) := ⟨(pi_list (pv i hN hv hd hcd)).imp fun σ H R ⟨O, ρ, ds, gd, e, q⟩ => by
  obtain ⟨t, e1, e2⟩ := bind_some e
  obtain ⟨es, e3, e4⟩ := bind_some e2
  split at e4
  · next hi =>
    cases e4
    obtain ⟨a, vs, h1, h2, h3, h4⟩ := gd.ownAt e1 e3
    exact ⟨_, h1, a, rfl, ⟨vs, .of h3⟩, q _ H (Same.refl H) (srcC_list h3 h4 hi)⟩
  · cases e4⟩
end
/-! ## fresh lists -/
@[simp] def freS : Sl → Sl
  | .dat d => if imm d = true then .dat d else .nil
  | .own ds => if immL ds = true then .own ds else .nil
  | .bag ds => if immL ds = true then .bag ds else .nil
  | .raw v => .raw v
  | .nil => .nil
@[simp] def freR (ρ : Rho) : Rho := ρ.map freS
@[simp] def immLi : D → Option D
  | .list ds => if immL ds = true then some (.list ds) else none
  | _ => none
@[simp] def freD (g : Rho → Option D) : Rho → Option D := fun ρ => (g (freR ρ)).bind immLi
structure DF (X : Cx) (B : Base) (e : Expr) (g : Rho → Option D) : Prop where
  pe : PE X e (fun σ H Q => ∃ O ρ ds, Good B O σ H ρ ∧ g ρ = some (.list ds) ∧ ∀ a us H', Same H H' → H a = none → H' a = some (.lst us) → RepL (fun b => O b ∨ b = a) H' ds us → Q (.ref a) H')
theorem Good.fre {B : Base} {O : Addr → Prop} {σ : St} {H : Hp} {ρ : Rho} (g : Good B O σ H ρ) : Good B (fun b => H b ≠ Option.none) σ H (freR ρ) := by
  have hw : ∀ (j : Nat) s, (freR ρ)[j]? = some s → ∃ t, ρ[j]? = some t ∧ freS t = s := fun j s e => by
    unfold freR at e
    rw [List.getElem?_map] at e
    cases h : ρ[j]? with
    | none => rw [h] at e; cases e
    | some t => rw [h] at e; cases e; exact ⟨t, rfl, rfl⟩
  have ho : ∀ t, isOwn (freS t) = true → isOwn t = true := fun t q => by
    cases t with
    | nil => cases q
    | dat d =>
      simp only [freS] at q
      by_cases h : imm d = true
      · rw [if_pos h] at q; cases q
      · rw [if_neg h] at q; cases q
    | own ds => rfl
    | bag ds => rfl
    | raw v => cases q
  refine ⟨by simp [g.len], g.frame, g.o0, g.r0, fun b h => g.otrk b (g.osub b h), fun b h => h, g.h0, fun j s e => ?_, fun j k s u b e1 e2 q1 q2 e3 e4 => ?_⟩
  · obtain ⟨t, e1, rfl⟩ := hw j s e
    have k := g.slots j t e1
    cases t with
    | nil => trivial
    | raw v => exact k
    | dat d =>
      simp only [freS]
      by_cases hi : imm d = true
      · rw [if_pos hi]
        obtain ⟨v, h1, r⟩ := k
        exact ⟨v, h1, r.imm hi⟩
      · rw [if_neg hi]; trivial
    | own ds =>
      simp only [freS]
      by_cases hi : immL ds = true
      · rw [if_pos hi]
        obtain ⟨a, vs, h1, h2, h3, h4, h5, r⟩ := k
        exact ⟨a, vs, h1, some_ne h5, h3, h4, h5, r.imm hi⟩
      · rw [if_neg hi]; trivial
    | bag ds =>
      simp only [freS]
      by_cases hi : immL ds = true
      · rw [if_pos hi]
        obtain ⟨a, vs, h1, h2, h3, h5, r⟩ := k
        exact ⟨a, vs, h1, h2, some_ne h5, h5, r.imm hi⟩
      · rw [if_neg hi]; trivial
  · obtain ⟨t1, f1, rfl⟩ := hw j s e1
    obtain ⟨t2, f2, rfl⟩ := hw k u e2
    exact g.sep j k t1 t2 b f1 f2 (ho _ q1) (ho _ q2) e3 e4
section
variable {X : Cx} {B : Base} {e : Expr} {es : List Expr} {g : Rho → Option D} {gs : Rho → Option (List D)} {pos p' : Pos}
theorem df_of (h : DP X B .str e g) : DF X B e (freD g) := ⟨h.pe.imp fun σ H Q ⟨O, ρ, ds, gd, e, q⟩ => by
  obtain ⟨d, e1, e2⟩ := bind_some e
  unfold immLi at e2
  split at e2
  · split at e2
    · next hi =>
      cases e2
      refine ⟨_, _, _, gd.fre, e1, fun v H' s r => ?_⟩
      simp only [Md.O, Rep] at r
      obtain ⟨a, us, rfl, no, ha, r⟩ := r
      have hn : H a = none := by
        cases h : H a with
        | none => rfl
        | some o => exact absurd (some_ne h) no
      exact q a us H' s hn ha (r.imm hi)
    · cases e2
  · cases e2⟩
theorem df_lst (ha : DPA X B .str es gs) : DF X B (.List es pos) (nD gs lstD) := ⟨(pe_lst ha.pa).imp fun σ H Q ⟨O, ρ, ds, gd, e, q⟩ => by
  obtain ⟨ds', e1, e2⟩ := bind_some e
  unfold lstD at e2
  split at e2
  · next hl =>
    cases e2
    refine ⟨O, ρ, _, gd, e1, fun vs H1 s1 r1 => ⟨line_le (by rw [← r1.length]; exact hl), fun p hp => ?_⟩⟩
    refine q p vs _ (s1.trans (same_upd hp)) (s1.free hp) upd_same (rep_upd hp (RepL.mv (.fresh hp) _ _ r1))
  · cases e2⟩
theorem ds_own {i : Nat} {x : Str} (hN : X.N.Nodup) (hi : X.N[i]? = some x) (hx : Loc X.env.scope x) (he : DF X B e g) (hs : swapsWith e (some (.Name x p')) pos.line X.env = pure false := by rfl) (hf : X.fn x = true ∨ X.env.scope.names.lookup x = some .local := by first | exact .inl rfl | exact .inr rfl | assumption) :
    DS X B (.Assign [.Name x p'] e pos) (setO i g) := ⟨(ps_set hN hi hx he.pe hs hf).imp fun E σ H ⟨O, ρ, r, gd, e, q⟩ => by
  obtain ⟨d, e1, e2⟩ := bind_some e
  cases d with
  | list ds =>
    cases e2
    refine ⟨O, ρ, ds, gd, e1, fun a us H' s ha ha' r => ?_⟩
    obtain ⟨g2, s2⟩ := gd.setOwn (i := i) s ha ha' r
    exact q _ H' _ s2 g2
  | _ => cases e2⟩
end
/-! ## a def at depth none -/
theorem fn_zero {P : Program} {w : World} {K : PySem.W.Frag} {mg : Str → Option Value} {base : Heap} {x : Str} {st : Stmt} {f : Addr} {fd : FuncData} {N ps : List Str} (F : L2.Fun K x x st f fd) (S : FnScope N ps (defScope st)) (bi : Binds K fd ps []) (hm : mg x = some (.ref f)) :
    Fn P w K mg base 1 x (fun _ => none) :=
  ⟨f, fd, ps, F.ok (k := 0) (N := N) (sp := spP fun _ => none) S (fun vs H Q E h => by obtain ⟨O, ds, d, t, r, e, q⟩ := h; cases e) (fun cdv A outer s H vs Q E hr h => by obtain ⟨O, ds, d, t, r, e, q⟩ := h; cases e), hm, F.kp, bi⟩
end DL

namespace DL
open PySem PySem.Spec
open PyProof.Rows hiding St
open L2
/-! ## slices -/
def cutD (xs : List D) (lo hi : Option Int) : List D := (xs.drop (HT.sIx xs.length 0 lo)).take (HT.sIx xs.length xs.length hi - HT.sIx xs.length 0 lo)
structure DPO (X : Cx) (B : Base) (m : Md) (e : Option Expr) (g : Rho → Option (Option Int)) : Prop where
  po : PO X e (fun σ H Q => ∃ O ρ o, Good B O σ H ρ ∧ g ρ = some o ∧ ∀ H', Same H H' → Q o H')
@[simp] def noO : Rho → Option (Option Int) := fun _ => some none
@[simp] def soO (g : Rho → Option D) : Rho → Option (Option Int) := fun ρ => (g ρ).bind fun d => (asInt d).bind fun i => some (some i)
@[simp] def slcD : D → Option Int → Option Int → Option D
  | .list xs, lo, hi => some (.list (cutD xs lo hi))
  | .tuple xs, lo, hi => some (.tuple (cutD xs lo hi))
  | _, _, _ => none
@[simp] def slD (g : Rho → Option D) (gl gh : Rho → Option (Option Int)) : Rho → Option D := fun ρ => (g ρ).bind fun d => (gl ρ).bind fun lo => (gh ρ).bind fun hi => slcD d lo hi
@[simp] def revD : D → Option D
  | .list xs => some (.list xs.reverse)
  | _ => none
theorem asInt_some {d : D} {i : Int} (h : asInt d = some i) : d = .int i := by
  unfold asInt at h
  split at h
  · cases h; rfl
  · cases h
theorem cut_rep {O : Addr → Prop} {H : Hp} {xs : List D} {vs : List V} {lo hi : Option Int} (r : RepL O H xs vs) : RepL O H (cutD xs lo hi) (cutV vs lo hi) := by
  unfold cutD cutV
  rw [r.length]
  exact (r.drop _).take _
theorem _root_.L2.PO.imp {X : Cx} {e : Option Expr} {t t' : TO} (h : PO X e t) (i : ∀ σ H Q, t' σ H Q → t σ H Q) : PO X e t' := ⟨fun pins s σ H Q I q => h.run pins s σ H Q I (i σ H Q q)⟩
section
variable {X : Cx} {B : Base} {m : Md} {e : Expr} {lo hi : Option Expr} {g : Rho → Option D} {gl gh : Rho → Option (Option Int)} {pos p2 : Pos}
theorem do_none : DPO X B m none noO := ⟨po_none.imp fun σ H Q ⟨O, ρ, o, gd, e, q⟩ => by
  cases e
  exact q H (Same.refl H)⟩
theorem do_some (h : DP X B m e g) : DPO X B m (some e) (soO g) := ⟨(po_some h.pe).imp fun σ H Q ⟨O, ρ, o, gd, e, q⟩ => by
  obtain ⟨d, e1, e2⟩ := bind_some e
  obtain ⟨i, e3, e4⟩ := bind_some e2
  cases asInt_some e3
  cases e4
  exact ⟨O, ρ, _, gd, e1, fun v H1 s1 r1 => ⟨i, rep_int.mp r1, q H1 s1⟩⟩⟩
theorem dp_slice (he : DP X B m e g) (hl : DPO X B m lo gl) (hh : DPO X B m hi gh) : DP X B m (.Subscript e (.Slice lo hi none p2) pos) (slD g gl gh) :=
  ⟨(pe_slice (sl_list.or sl_tupA) he.pe hl.po hh.po).imp fun σ H Q ⟨O, ρ, d, gd, e, q⟩ => by
    obtain ⟨x, e1, e'⟩ := bind_some e
    obtain ⟨l, e2, e''⟩ := bind_some e'
    obtain ⟨h, e3, e4⟩ := bind_some e''
    refine ⟨O, ρ, x, gd, e1, fun v H1 s1 r1 => ⟨O, ρ, l, gd.same s1, e2, fun H2 s2 => ⟨O, ρ, h, gd.same (s1.trans s2), e3, fun H3 s3 => ?_⟩⟩⟩
    have s13 := (s1.trans s2).trans s3
    have r3 := (r1.same s2).same s3
    unfold slcD at e4
    split at e4
    · cases e4
      simp only [Rep] at r3
      obtain ⟨a, vs, rfl, no, ha, r⟩ := r3
      exact .inl ⟨a, vs, rfl, .of ha, fun p hp => q _ _ (s13.trans (same_upd hp)) (rep_lst ((gd.same s13).otr m) hp (cut_rep r))⟩
    · cases e4
      simp only [Rep] at r3
      obtain ⟨a, vs, rfl, ha, r⟩ := r3
      refine .inr ⟨a, vs, rfl, .of ha, fun hw => ?_, fun _ p hp => q _ _ (s13.trans (same_upd hp)) (rep_tup hp (cut_rep r))⟩
      refine q _ H3 s13 ?_
      have hc : cutV vs l h = vs := by
        unfold cutV
        rw [hw.1, hw.2]
        simp
      have := cut_rep (lo := l) (hi := h) r
      rw [hc] at this
      simp only [Rep]
      exact ⟨a, vs, rfl, ha, this⟩
    · cases e4⟩
theorem dp_rev {k : Nat} {p1 p3 p4 : Pos} (he : DP X B m e g) : DP X B m (.Subscript e (.Slice none none (some (.UnaryOp .USub (.Constant (.int 1) k p1) p4)) p3) pos) (b1D g revD) :=
  ⟨(pe_revL he.pe).imp fun σ H Q ⟨O, ρ, d, gd, e, q⟩ => by
    obtain ⟨x, e1, e2⟩ := bind_some e
    refine ⟨O, ρ, x, gd, e1, fun v H1 s1 r1 => ?_⟩
    unfold revD at e2
    split at e2
    · cases e2
      simp only [Rep] at r1
      obtain ⟨a, vs, rfl, no, ha, r⟩ := r1
      exact ⟨a, vs, rfl, .of ha, fun p hp => q _ _ (s1.trans (same_upd hp)) (rep_lst ((gd.same s1).otr m) hp r.reverse)⟩
    · cases e2⟩
end
/-! ## lists of ints and of bools -/
@[simp] def boolsOf : List D → Option (List Bool)
  | [] => some []
  | .bool b :: ds => (boolsOf ds).bind fun bs => some (b :: bs)
  | _ :: _ => none
@[simp] def intsOf : List D → Option (List Int)
  | [] => some []
  | .int b :: ds => (intsOf ds).bind fun bs => some (b :: bs)
  | _ :: _ => none
theorem bools_rep {O : Addr → Prop} {H : Hp} : ∀ {ds : List D} {vs : List V} {bs : List Bool}, RepL O H ds vs → boolsOf ds = some bs → vs = bs.map V.bl
  | [], vs, bs, r, h => by simp only [boolsOf] at h; cases h; simp only [RepL] at r; subst r; rfl
  | d :: ds, vs, bs, r, h => by
    simp only [RepL] at r
    obtain ⟨v, us, rfl, r1, r2⟩ := r
    unfold boolsOf at h
    split at h
    · cases (by assumption : d :: ds = _)
    · next q =>
      cases q
      obtain ⟨cs, h1, h2⟩ := bind_some h
      cases h2
      rw [rep_bool.mp r1, bools_rep r2 h1]
      rfl
    · cases h
theorem ints_rep {O : Addr → Prop} {H : Hp} : ∀ {ds : List D} {vs : List V} {bs : List Int}, RepL O H ds vs → intsOf ds = some bs → vs = bs.map V.int
  | [], vs, bs, r, h => by simp only [intsOf] at h; cases h; simp only [RepL] at r; subst r; rfl
  | d :: ds, vs, bs, r, h => by
    simp only [RepL] at r
    obtain ⟨v, us, rfl, r1, r2⟩ := r
    unfold intsOf at h
    split at h
    · cases (by assumption : d :: ds = _)
    · next q =>
      cases q
      obtain ⟨cs, h1, h2⟩ := bind_some h
      cases h2
      rw [rep_int.mp r1, ints_rep r2 h1]
      rfl
    · cases h
theorem rep_intsD {O : Addr → Prop} {H : Hp} : ∀ ns : List Int, RepL O H (intsD ns) (ns.map V.int)
  | [] => .nil
  | n :: ns => .cons (rep_int.mpr rfl) (rep_intsD ns)
@[simp] theorem intsOf_intsD : ∀ ns : List Int, intsOf (intsD ns) = some ns
  | [] => rfl
  | n :: ns => by
    show ((intsOf (intsD ns)).bind fun bs => some (n :: bs)) = _
    rw [intsOf_intsD ns]; rfl
/-! ### the greatest and the least -/
def maxL : Int → List Int → Int
  | m, [] => m
  | m, n :: ns => maxL (if m < n then n else m) ns
def minL : Int → List Int → Int
  | m, [] => m
  | m, n :: ns => minL (if n < m then n else m) ns
theorem maxL_ge : ∀ (ns : List Int) (m : Int), m ≤ maxL m ns ∧ ∀ y ∈ ns, y ≤ maxL m ns
  | [], m => ⟨Int.le_refl _, fun y h => by cases h⟩
  | n :: ns, m => by
    obtain ⟨h1, h2⟩ := maxL_ge ns (if m < n then n else m)
    unfold maxL
    refine ⟨?_, fun y h => ?_⟩
    · split at h1 <;> rename_i hlt
      · rw [if_pos hlt]; omega
      · rw [if_neg hlt]; omega
    · rcases List.mem_cons.mp h with rfl | h
      · split at h1 <;> rename_i hlt
        · rw [if_pos hlt]; omega
        · rw [if_neg hlt]; omega
      · exact h2 y h
theorem maxL_mem : ∀ (ns : List Int) (m : Int), maxL m ns = m ∨ maxL m ns ∈ ns
  | [], m => .inl rfl
  | n :: ns, m => by
    unfold maxL
    by_cases h : m < n
    · rw [if_pos h]
      rcases maxL_mem ns n with e | e
      · exact .inr (by rw [e]; simp)
      · exact .inr (by simp [e])
    · rw [if_neg h]
      rcases maxL_mem ns m with e | e
      · exact .inl e
      · exact .inr (by simp [e])
theorem minL_le : ∀ (ns : List Int) (m : Int), minL m ns ≤ m ∧ ∀ y ∈ ns, minL m ns ≤ y
  | [], m => ⟨Int.le_refl _, fun y h => by cases h⟩
  | n :: ns, m => by
    obtain ⟨h1, h2⟩ := minL_le ns (if n < m then n else m)
    unfold minL
    refine ⟨?_, fun y h => ?_⟩
    · split at h1 <;> rename_i hlt
      · rw [if_pos hlt]; omega
      · rw [if_neg hlt]; omega
    · rcases List.mem_cons.mp h with rfl | h
      · split at h1 <;> rename_i hlt
        · rw [if_pos hlt]; omega
        · rw [if_neg hlt]; omega
      · exact h2 y h
theorem minL_mem : ∀ (ns : List Int) (m : Int), minL m ns = m ∨ minL m ns ∈ ns
  | [], m => .inl rfl
  | n :: ns, m => by
    unfold minL
    by_cases h : n < m
    · rw [if_pos h]
      rcases minL_mem ns n with e | e
      · exact .inr (by rw [e]; simp)
      · exact .inr (by simp [e])
    · rw [if_neg h]
      rcases minL_mem ns m with e | e
      · exact .inl e
      · exact .inr (by simp [e])
/-! ### sorted ints -/
def insI (x : Int) : List Int → List Int
  | [] => [x]
  | y :: ys => if x ≤ y then x :: y :: ys else y :: insI x ys
def sortI : List Int → List Int
  | [] => []
  | x :: xs => insI x (sortI xs)
theorem insI_perm (x : Int) : ∀ ys : List Int, (insI x ys).Perm (x :: ys)
  | [] => .refl _
  | y :: ys => by
    unfold insI
    split
    · exact .refl _
    · exact ((insI_perm x ys).cons y).trans (.swap x y ys)
theorem sortI_perm : ∀ xs : List Int, (sortI xs).Perm xs
  | [] => .refl _
  | x :: xs => (insI_perm x _).trans ((sortI_perm xs).cons x)
theorem insI_sorted (x : Int) : ∀ ys : List Int, ys.Pairwise (· ≤ ·) → (insI x ys).Pairwise (· ≤ ·)
  | [], _ => by simp [insI]
  | y :: ys, h => by
    rw [List.pairwise_cons] at h
    unfold insI
    split
    · next hxy =>
      rw [List.pairwise_cons]
      refine ⟨fun z hz => ?_, List.pairwise_cons.mpr h⟩
      rcases List.mem_cons.mp hz with rfl | hz
      · exact hxy
      · have := h.1 z hz; omega
    · next hxy =>
      rw [List.pairwise_cons]
      refine ⟨fun z hz => ?_, insI_sorted x ys h.2⟩
      rcases List.mem_cons.mp ((insI_perm x ys).mem_iff.mp hz) with rfl | hz
      · omega
      · exact h.1 z hz
theorem sortI_sorted : ∀ xs : List Int, (sortI xs).Pairwise (· ≤ ·)
  | [] => .nil
  | x :: xs => insI_sorted x _ (sortI_sorted xs)
theorem sorted_uniq : ∀ {xs ys : List Int}, xs.Perm ys → xs.Pairwise (· ≤ ·) → ys.Pairwise (· ≤ ·) → xs = ys
  | [], ys, p, _, _ => by rw [List.nil_perm] at p; exact p.symm
  | x :: xs, [], p, _, _ => by have := p.length_eq; simp at this
  | x :: xs, y :: ys, p, h1, h2 => by
    rw [List.pairwise_cons] at h1 h2
    have hx : x ∈ y :: ys := p.mem_iff.mp (by simp)
    have hy : y ∈ x :: xs := p.mem_iff.mpr (by simp)
    have e : x = y := by
      rcases List.mem_cons.mp hx with e | hx
      · exact e
      · rcases List.mem_cons.mp hy with e | hy
        · exact e.symm
        · have := h1.1 y hy
          have := h2.1 x hx
          omega
    subst e
    rw [sorted_uniq ((List.perm_cons x).mp p) h1.2 h2.2]
/-! ### the functions -/
@[simp] def allD : List D → Option D
  | [.list ds] => (boolsOf ds).bind fun bs => some (.bool (bs.all id))
  | _ => none
@[simp] def anyD : List D → Option D
  | [.list ds] => (boolsOf ds).bind fun bs => some (.bool (bs.any id))
  | _ => none
@[simp] def sumD : List D → Option D
  | [.list ds] => (intsOf ds).bind fun bs => some (.int bs.sum)
  | _ => none
@[simp] def maxD : List D → Option D
  | [.list ds] => (intsOf ds).bind fun bs => match bs with
    | [] => none
    | n :: ns => some (.int (maxL n ns))
  | _ => none
@[simp] def minD : List D → Option D
  | [.list ds] => (intsOf ds).bind fun bs => match bs with
    | [] => none
    | n :: ns => some (.int (minL n ns))
  | _ => none
@[simp] def sortedD : List D → Option D
  | [.list ds] => (intsOf ds).bind fun bs => some (.list (intsD (sortI bs)))
  | _ => none
@[simp] def listD : List D → Option D
  | [.list ds] => some (.list ds)
  | [.tuple ds] => some (.list ds)
  | _ => none
@[simp] def tupleD : List D → Option D
  | [.list ds] => some (.tuple ds)
  | [.tuple ds] => some (.tuple ds)
  | _ => none
@[simp] def intD : List D → Option D
  | [.int i] => some (.int i)
  | [.bool b] => some (.int (if b then 1 else 0))
  | _ => none
section
variable {K : PySem.W.Frag}
theorem n_all : OpN (rAll K) allD := by
  intro O H ds z xs Q t hf rx q
  unfold allD at hf
  split at hf
  · obtain ⟨bs, e1, e2⟩ := bind_some hf
    cases e2
    obtain ⟨v, rfl, r⟩ := repL_one rx
    simp only [Rep] at r
    obtain ⟨a, vs, rfl, _, ha, r⟩ := r
    cases bools_rep r e1
    exact ⟨a, bs, rfl, .of ha, q _ H (Same.refl H) (rep_bool.mpr rfl)⟩
  · cases hf
theorem n_any : OpN (rAny K) anyD := by
  intro O H ds z xs Q t hf rx q
  unfold anyD at hf
  split at hf
  · obtain ⟨bs, e1, e2⟩ := bind_some hf
    cases e2
    obtain ⟨v, rfl, r⟩ := repL_one rx
    simp only [Rep] at r
    obtain ⟨a, vs, rfl, _, ha, r⟩ := r
    cases bools_rep r e1
    exact ⟨a, bs, rfl, .of ha, q _ H (Same.refl H) (rep_bool.mpr rfl)⟩
  · cases hf
theorem n_sum : OpN (rSum K) sumD := by
  intro O H ds z xs Q t hf rx q
  unfold sumD at hf
  split at hf
  · obtain ⟨bs, e1, e2⟩ := bind_some hf
    cases e2
    obtain ⟨v, rfl, r⟩ := repL_one rx
    simp only [Rep] at r
    obtain ⟨a, vs, rfl, _, ha, r⟩ := r
    cases ints_rep r e1
    exact ⟨a, bs, rfl, .of ha, q _ H (Same.refl H) (rep_int.mpr rfl)⟩
  · cases hf
theorem n_max : OpN (rMax K) maxD := by
  intro O H ds z xs Q t hf rx q
  unfold maxD at hf
  split at hf
  · obtain ⟨bs, e1, e2⟩ := bind_some hf
    obtain ⟨v, rfl, r⟩ := repL_one rx
    simp only [Rep] at r
    obtain ⟨a, vs, rfl, _, ha, r⟩ := r
    cases ints_rep r e1
    cases bs with
    | nil => cases e2
    | cons n ns =>
      cases e2
      refine ⟨a, n :: ns, rfl, .of ha, by simp, fun m hm hge => q _ H (Same.refl H) (rep_int.mpr ?_)⟩
      have h1 := maxL_ge ns n
      have h2 : maxL n ns ≤ m := by
        rcases maxL_mem ns n with e | e
        · rw [e]; exact hge n (by simp)
        · exact hge _ (by simp [e])
      have h3 : m ≤ maxL n ns := by
        rcases List.mem_cons.mp hm with rfl | hm
        · exact h1.1
        · exact h1.2 m hm
      rw [show m = maxL n ns by omega]
  · cases hf
theorem n_min : OpN (rMin K) minD := by
  intro O H ds z xs Q t hf rx q
  unfold minD at hf
  split at hf
  · obtain ⟨bs, e1, e2⟩ := bind_some hf
    obtain ⟨v, rfl, r⟩ := repL_one rx
    simp only [Rep] at r
    obtain ⟨a, vs, rfl, _, ha, r⟩ := r
    cases ints_rep r e1
    cases bs with
    | nil => cases e2
    | cons n ns =>
      cases e2
      refine ⟨a, n :: ns, rfl, .of ha, by simp, fun m hm hge => q _ H (Same.refl H) (rep_int.mpr ?_)⟩
      have h1 := minL_le ns n
      have h2 : m ≤ minL n ns := by
        rcases minL_mem ns n with e | e
        · rw [e]; exact hge n (by simp)
        · exact hge _ (by simp [e])
      have h3 : minL n ns ≤ m := by
        rcases List.mem_cons.mp hm with rfl | hm
        · exact h1.1
        · exact h1.2 m hm
      rw [show m = minL n ns by omega]
  · cases hf
theorem n_sorted : OpN (rSortedI K) sortedD := by
  intro O H ds z xs Q t hf rx q
  unfold sortedD at hf
  split at hf
  · obtain ⟨bs, e1, e2⟩ := bind_some hf
    cases e2
    obtain ⟨v, rfl, r⟩ := repL_one rx
    simp only [Rep] at r
    obtain ⟨a, vs, rfl, _, ha, r⟩ := r
    cases ints_rep r e1
    refine ⟨a, bs, rfl, .of ha, fun ns' p hp hs hn => ?_⟩
    have : ns' = sortI bs := sorted_uniq (hp.trans (sortI_perm bs).symm) hs (sortI_sorted bs)
    subst this
    exact q _ _ (same_upd hn) (rep_lst t hn (rep_intsD _))
  · cases hf
theorem n_list : OpN (fun xs H Q => ∃ p ys, xs = [.ref p] ∧ (SqL K H p ys ∨ SqT K H p ys) ∧ ∀ l, H l = none → Q (.ref l) (upd H l (.lst ys))) listD := by
  intro O H ds z xs Q t hf rx q
  unfold listD at hf
  split at hf
  · cases hf
    obtain ⟨v, rfl, r⟩ := repL_one rx
    simp only [Rep] at r
    obtain ⟨a, vs, rfl, _, ha, r⟩ := r
    exact ⟨a, vs, rfl, .inl (.of ha), fun l hl => q _ _ (same_upd hl) (rep_lst t hl r)⟩
  · cases hf
    obtain ⟨v, rfl, r⟩ := repL_one rx
    simp only [Rep] at r
    obtain ⟨a, vs, rfl, ha, r⟩ := r
    exact ⟨a, vs, rfl, .inr (.of ha), fun l hl => q _ _ (same_upd hl) (rep_lst t hl r)⟩
  · cases hf
theorem n_tuple : OpN (fun xs H Q => ∃ p ys, xs = [.ref p] ∧ ((SqL K H p ys ∧ ∀ l, H l = none → Q (.ref l) (upd H l (.tup ys))) ∨ (SqT K H p ys ∧ Q (.ref p) H))) tupleD := by
  intro O H ds z xs Q t hf rx q
  unfold tupleD at hf
  split at hf
  · cases hf
    obtain ⟨v, rfl, r⟩ := repL_one rx
    simp only [Rep] at r
    obtain ⟨a, vs, rfl, _, ha, r⟩ := r
    exact ⟨a, vs, rfl, .inl ⟨.of ha, fun l hl => q _ _ (same_upd hl) (rep_tup hl r)⟩⟩
  · cases hf
    obtain ⟨v, rfl, r⟩ := repL_one rx
    have r' := r
    simp only [Rep] at r
    obtain ⟨a, vs, rfl, ha, r⟩ := r
    exact ⟨a, vs, rfl, .inr ⟨.of ha, q _ H (Same.refl H) r'⟩⟩
  · cases hf
theorem n_int : OpN (fun xs H Q => (∃ i, xs = [.int i] ∧ Q (.int i) H) ∨ ∃ k, xs = [.bl k] ∧ Q (.int (if k then 1 else 0)) H) intD := by
  intro O H ds z xs Q t hf rx q
  unfold intD at hf
  split at hf
  · cases hf
    obtain ⟨v, rfl, r⟩ := repL_one rx
    rw [rep_int.mp r]
    exact .inl ⟨_, rfl, q _ H (Same.refl H) (rep_int.mpr rfl)⟩
  · cases hf
    obtain ⟨v, rfl, r⟩ := repL_one rx
    rw [rep_bool.mp r]
    exact .inr ⟨_, rfl, q _ H (Same.refl H) (rep_int.mpr rfl)⟩
  · cases hf
end
/-! ### in -/
@[simp] def inD : D → D → Option D
  | d, .list ds => if SeqAt.shaped d = true ∧ SeqAt.shaped (.list ds) = true then some (.bool (ds.any fun z => PyData.eqv z d)) else none
  | _, _ => none
@[simp] def notInD : D → D → Option D
  | d, .list ds => if SeqAt.shaped d = true ∧ SeqAt.shaped (.list ds) = true then some (.bool (!ds.any fun z => PyData.eqv z d)) else none
  | _, _ => none
theorem o_in {K : PySem.W.Frag} : Op2 (rInD K) inD := by
  intro O H d e z x y Q t hf rx ry q
  unfold inD at hf
  split at hf
  · split at hf
    · next hs => cases hf; exact ⟨_, _, rx.dp, ry.dp, hs.1, hs.2, q _ H (Same.refl H) (rep_bool.mpr rfl)⟩
    · cases hf
  · cases hf
theorem o_notIn {K : PySem.W.Frag} : Op2 (rNotInD K) notInD := by
  intro O H d e z x y Q t hf rx ry q
  unfold notInD at hf
  split at hf
  · split at hf
    · next hs => cases hf; exact ⟨_, _, rx.dp, ry.dp, hs.1, hs.2, q _ H (Same.refl H) (rep_bool.mpr rfl)⟩
    · cases hf
  · cases hf
end DL

namespace DL
open PySem PySem.Spec
open PyProof.Rows hiding St
open L2
/-! ## shapes and equality -/
def Shp (k : Nat) (d : D) : Prop := d.canLay0 = true ∧ d.depth ≤ k
theorem Shp.ok {k : Nat} {d : D} (h : Shp k d) (hk : k ≤ 64) : SeqAt.shaped d = true := by
  unfold SeqAt.shaped
  rw [h.1, Bool.true_and, decide_eq_true_eq]
  exact Nat.le_trans h.2 hk
theorem Shp.mono {k j : Nat} {d : D} (h : Shp k d) (hk : k ≤ j) : Shp j d := ⟨h.1, Nat.le_trans h.2 hk⟩
theorem shp_int (i : Int) : Shp 0 (.int i) := ⟨by simp [PyData.canLay0], by simp [PyData.depth]⟩
theorem shp_bool (i : Bool) : Shp 0 (.bool i) := ⟨by simp [PyData.canLay0], by simp [PyData.depth]⟩
theorem shp_none : Shp 0 .none := ⟨by simp [PyData.canLay0], by simp [PyData.depth]⟩
theorem shp_str {x : Str} (h : PyData.strOk x = true) : Shp 0 (.str x) := ⟨by simp [PyData.canLay0, h], by simp [PyData.depth]⟩
theorem shp_all {k : Nat} : ∀ {ds : List D}, (∀ d ∈ ds, Shp k d) → PyData.canLayAll0 ds = true ∧ PyData.depthAll ds ≤ k
  | [], h => ⟨by simp [PyData.canLayAll0], by simp [PyData.depthAll]⟩
  | d :: ds, h => by
    obtain ⟨h1, h2⟩ := h d (by simp)
    obtain ⟨h3, h4⟩ := shp_all (ds := ds) (fun e he => h e (by simp [he]))
    refine ⟨by rw [PyData.canLayAll0, h1, h3]; rfl, ?_⟩
    rw [PyData.depthAll]
    omega
theorem shp_list {k : Nat} {ds : List D} (h : ∀ d ∈ ds, Shp k d) : Shp (k + 1) (.list ds) := by
  obtain ⟨h1, h2⟩ := shp_all h
  exact ⟨by rw [PyData.canLay0]; exact h1, by rw [PyData.depth]; omega⟩
theorem shp_tup {k : Nat} {ds : List D} (h : ∀ d ∈ ds, Shp k d) : Shp (k + 1) (.tuple ds) := by
  obtain ⟨h1, h2⟩ := shp_all h
  exact ⟨by rw [PyData.canLay0]; exact h1, by rw [PyData.depth]; omega⟩
theorem shp_ints (ns : List Int) : ∀ d ∈ intsD ns, Shp 0 d := fun d hd => by
  obtain ⟨n, _, rfl⟩ := List.mem_map.mp hd
  exact shp_int n
@[simp] theorem shaped_ints (ns : List Int) : SeqAt.shaped (.list (intsD ns)) = true := (shp_list (shp_ints ns)).ok (by decide)
@[simp] theorem shaped_intsT (ns : List Int) : SeqAt.shaped (.tuple (intsD ns)) = true := (shp_tup (shp_ints ns)).ok (by decide)
@[simp] theorem shaped_nil : SeqAt.shaped (.list []) = true := shaped_ints []
@[simp] theorem shaped_nilT : SeqAt.shaped (.tuple []) = true := shaped_intsT []
@[simp] theorem eqv_list (xs ys : List D) : PyData.eqv (.list xs) (.list ys) = PyData.eqvAll xs ys := by rw [PyData.eqv]
@[simp] theorem eqv_tup (xs ys : List D) : PyData.eqv (.tuple xs) (.tuple ys) = PyData.eqvAll xs ys := by rw [PyData.eqv]
@[simp] theorem eqv_bool (i j : Bool) : PyData.eqv (.bool i) (.bool j) = (i == j) := by rw [PyData.eqv]
@[simp] theorem eqv_str (i j : Str) : PyData.eqv (.str i) (.str j) = (i == j) := by rw [PyData.eqv]
@[simp] theorem eqvAll_nil : PyData.eqvAll [] [] = true := by rw [PyData.eqvAll]
@[simp] theorem eqvAll_cons (x y : D) (xs ys : List D) : PyData.eqvAll (x :: xs) (y :: ys) = (PyData.eqv x y && PyData.eqvAll xs ys) := by rw [PyData.eqvAll]
@[simp] theorem eqvAll_l (x : D) (xs : List D) : PyData.eqvAll (x :: xs) [] = false := by rw [PyData.eqvAll]
@[simp] theorem eqvAll_r (x : D) (xs : List D) : PyData.eqvAll [] (x :: xs) = false := by rw [PyData.eqvAll]
theorem eqvAll_nil_iff (xs : List D) : PyData.eqvAll xs [] = xs.isEmpty := by
  cases xs <;> simp
theorem eqvAll_ints : ∀ (xs ys : List Int), PyData.eqvAll (intsD xs) (intsD ys) = decide (xs = ys)
  | [], [] => by simp [intsD]
  | [], y :: ys => by simp [intsD]
  | x :: xs, [] => by simp [intsD]
  | x :: xs, y :: ys => by
    have := eqvAll_ints xs ys
    simp only [intsD, List.map_cons, eqvAll_cons, eqv_int] at this ⊢
    rw [this]
    by_cases h : x = y
    · subst h; simp
    · simp [h]
theorem eqvAll_refl : ∀ {xs : List D}, (∀ d ∈ xs, PyData.eqv d d = true) → PyData.eqvAll xs xs = true
  | [], _ => by simp
  | x :: xs, h => by
    rw [eqvAll_cons, h x (by simp), eqvAll_refl fun d hd => h d (List.mem_cons_of_mem _ hd)]
    rfl
@[simp] theorem intsD_nil : intsD [] = [] := rfl
@[simp] theorem intsD_cons (n : Int) (ns : List Int) : intsD (n :: ns) = .int n :: intsD ns := rfl
@[simp] theorem intsD_len (ns : List Int) : (intsD ns).length = ns.length := by simp [intsD]
theorem intsD_app (ns ms : List Int) : intsD (ns ++ ms) = intsD ns ++ intsD ms := by simp [intsD]
theorem intsD_get (ns : List Int) (i : Nat) : (intsD ns)[i]? = (ns[i]?).map .int := by simp [intsD]
theorem immL_ints : ∀ ns : List Int, immL (intsD ns) = true
  | [] => rfl
  | n :: ns => by simp [immL_ints ns]
@[simp] theorem imm_ints (ns : List Int) : imm (.tuple (intsD ns)) = true := by simp [immL_ints]
theorem atI_ints (ns : List Int) (i : Nat) (k : Int) (hk : k = i) (n : Int) (h : ns[i]? = some n) : atI (intsD ns) k = some (.int n) := by
  subst hk
  rw [atI_natCast, intsD_get, h]
  rfl
/-! ## slices -/
theorem cutD_from (xs : List D) (i : Int) (h : 0 ≤ i) : cutD xs (some i) none = xs.drop i.toNat := by
  obtain ⟨k, rfl⟩ := Int.eq_ofNat_of_zero_le h
  unfold cutD
  rw [HT.sIx_nat, HT.sIx_none, Int.toNat_natCast]
  by_cases hk : k ≤ xs.length
  · rw [Nat.min_eq_left hk, List.take_of_length_le (by rw [List.length_drop]; omega)]
  · rw [Nat.min_eq_right (by omega), Nat.sub_self, List.take_zero, List.drop_eq_nil_of_le (by omega)]
theorem cutD_to (xs : List D) (i : Int) (h : 0 ≤ i) : cutD xs none (some i) = xs.take i.toNat := by
  obtain ⟨k, rfl⟩ := Int.eq_ofNat_of_zero_le h
  unfold cutD
  rw [HT.sIx_nat, HT.sIx_none, Int.toNat_natCast, List.drop_zero, Nat.sub_zero]
  by_cases hk : k ≤ xs.length
  · rw [Nat.min_eq_left hk]
  · rw [Nat.min_eq_right (by omega), List.take_of_length_le (by omega), List.take_of_length_le (by omega)]
@[simp] theorem cutD_one (xs : List D) : cutD xs (some 1) none = xs.tail := by
  rw [cutD_from xs 1 (by decide)]
  exact List.drop_one
@[simp] theorem intsD_tail (ns : List Int) : (intsD ns).tail = intsD ns.tail := by simp [intsD]
@[simp] theorem cutD_nat (xs : List D) (k : Nat) : cutD xs none (some (k : Int)) = xs.take k := by
  rw [cutD_to xs k (by omega)]
  rfl
theorem intsD_drop (ns : List Int) (k : Nat) : (intsD ns).drop k = intsD (ns.drop k) := by simp [intsD]
theorem intsD_take (ns : List Int) (k : Nat) : (intsD ns).take k = intsD (ns.take k) := by simp [intsD]
theorem boolsOf_map (p : D → Bool) : ∀ ds : List D, boolsOf (ds.map fun d => .bool (p d)) = some (ds.map p)
  | [] => rfl
  | d :: ds => by simp [boolsOf_map p ds]
/-! ## ranges -/
theorem rngL_zero (lo : Int) : rngL lo 0 = [] := rfl
theorem rngL_succ (lo : Int) (n : Nat) : rngL lo (n + 1) = .int lo :: rngL (lo + 1) n := by
  unfold rngL
  rw [List.range_succ_eq_map, List.map_cons, List.map_map]
  congr 1
  · simp
  · apply List.map_congr_left
    intro i _
    show PyData.int (lo + ((i + 1 : Nat) : Int)) = .int (lo + 1 + (i : Int))
    congr 1
    omega
theorem rngL_len (lo : Int) (n : Nat) : (rngL lo n).length = n := by simp [rngL]
theorem rngL_mem {lo : Int} {n : Nat} {d : D} (h : d ∈ rngL lo n) : ∃ i : Int, d = .int i ∧ lo ≤ i ∧ i < lo + n := by
  obtain ⟨k, hk, rfl⟩ := List.mem_map.mp h
  rw [List.mem_range] at hk
  exact ⟨_, rfl, by omega, by omega⟩
theorem two62 : ((2 : Int) ^ 62) = 4611686018427387904 := by decide
theorem rng1_ok (j : Int) (h0 : -1000000000000000000 ≤ j) (h : j ≤ 1000000000000000000) : rng1 [.int j] = some (rngL 0 j.toNat) := by
  rw [rng1_def]
  show (if -(2 ^ 62 : Int) ≤ j ∧ j < 2 ^ 62 then some (rngL 0 j.toNat) else none) = _
  rw [two62]
  exact if_pos (by omega)
theorem rng1_nat (n : Nat) (h : n ≤ 1000000) : rng1 [.int (n : Int)] = some (rngL 0 n) := by
  rw [rng1_ok n (by omega) (by omega)]
  rfl
theorem rng2_ok (i j : Int) (h0 : -1000000000000000000 ≤ i) (h : i ≤ 1000000000000000000) (h1 : -1000000000000000000 ≤ j) (h2 : j ≤ 1000000000000000000) : rng2 [.int i, .int j] = some (rngL i (j - i).toNat) := by
  rw [rng2_def]
  show (if -(2 ^ 62 : Int) ≤ i ∧ i < 2 ^ 62 ∧ -(2 ^ 62) ≤ j ∧ j < 2 ^ 62 then some (rngL i (j - i).toNat) else none) = _
  rw [two62]
  exact if_pos (by omega)
/-! ## comprehensions and loops -/
theorem compL_fm {b : D → Rho → Option Rho} {t : Rho → Option Bool} {g : Rho → Option D} {ρ : Rho} (p : D → Bool) (f : D → D) : ∀ {ds : List D}, (∀ d ∈ ds, ∃ ρ1, b d ρ = some ρ1 ∧ t ρ1 = some (p d) ∧ (p d = true → g ρ1 = some (f d))) → compL b t g ρ ds = some ((ds.filter p).map f)
  | [], _ => rfl
  | d :: ds, h => by
    obtain ⟨ρ1, e1, e2, e3⟩ := h d (by simp)
    have ih := compL_fm (ds := ds) p f fun e he => h e (by simp [he])
    unfold compL
    rw [e1]
    simp only [Option.bind]
    rw [e2]
    by_cases hp : p d = true
    · simp [hp, e3 hp, ih]
    · simp [hp, ih]
theorem compL_map {b : D → Rho → Option Rho} {g : Rho → Option D} {ρ : Rho} (f : D → D) {ds : List D} (h : ∀ d ∈ ds, ∃ ρ1, b d ρ = some ρ1 ∧ g ρ1 = some (f d)) : compL b yesT g ρ ds = some (ds.map f) := by
  have := compL_fm (b := b) (t := yesT) (g := g) (ρ := ρ) (fun _ => true) f (ds := ds) fun d hd => by
    obtain ⟨ρ1, e1, e2⟩ := h d hd
    exact ⟨ρ1, e1, rfl, fun _ => e2⟩
  rwa [List.filter_eq_self.mpr (fun _ _ => rfl)] at this
theorem forL_inv {b : D → Rho → Option Rho} {F : Rho → Option Out} (I : List D → Rho → Prop) (h : ∀ d ds ρ, I (d :: ds) ρ → ∃ ρ1 ρ2, b d ρ = some ρ1 ∧ F ρ1 = some (.nx ρ2) ∧ I ds ρ2) : ∀ ds ρ, I ds ρ → ∃ ρ', forL b F ds ρ = some (.nx ρ') ∧ I [] ρ'
  | [], ρ, i => ⟨ρ, rfl, i⟩
  | d :: ds, ρ, i => by
    obtain ⟨ρ1, ρ2, e1, e2, i2⟩ := h d ds ρ i
    obtain ⟨ρ', e3, i3⟩ := forL_inv I h ds ρ2 i2
    exact ⟨ρ', by simp [e1, e2, e3], i3⟩
theorem forL_cons {b : D → Rho → Option Rho} {F : Rho → Option Out} {d : D} {ds : List D} {ρ ρ1 ρ2 : Rho} (h1 : b d ρ = some ρ1) (h2 : F ρ1 = some (.nx ρ2)) : forL b F (d :: ds) ρ = forL b F ds ρ2 := by simp [h1, h2]
theorem whl_go {c : Rho → Option (Bool × Rho)} {F : Rho → Option Out} {n : Nat} {ρ ρ1 ρ2 : Rho} (h1 : c ρ = some (true, ρ1)) (h2 : F ρ1 = some (.nx ρ2)) : whlL c F (n + 1) ρ = whlL c F n ρ2 := by simp [whlL, h1, h2]
theorem whl_end {c : Rho → Option (Bool × Rho)} {F : Rho → Option Out} {n : Nat} {ρ ρ1 : Rho} (h1 : c ρ = some (false, ρ1)) : whlL c F (n + 1) ρ = some (.nx ρ1) := by simp [whlL, h1]
theorem seq_eq {F G : Rho → Option Out} {ρ ρ1 : Rho} {r : Option Out} (h : F ρ = some (.nx ρ1)) (h2 : G ρ1 = r) : seqF F G ρ = r := by
  simp [seqF, h, h2]
theorem seq_ex {F G : Rho → Option Out} {ρ : Rho} (ρ1 : Rho) {J : Rho → Prop} (h : F ρ = some (.nx ρ1)) (h2 : ∃ ρ', G ρ1 = some (.nx ρ') ∧ J ρ') : ∃ ρ', seqF F G ρ = some (.nx ρ') ∧ J ρ' := by
  obtain ⟨ρ', e, j⟩ := h2
  exact ⟨ρ', seq_nx h e, j⟩
theorem last_ex {F : Rho → Option Out} {ρ : Rho} (ρ1 : Rho) {J : Rho → Prop} (h : F ρ = some (.nx ρ1)) (j : J ρ1) : ∃ ρ', F ρ = some (.nx ρ') ∧ J ρ' := ⟨ρ1, h, j⟩
theorem seq_ex2 {F G : Rho → Option Out} {ρ : Rho} {I J : Rho → Prop} (h : ∃ ρ1, F ρ = some (.nx ρ1) ∧ I ρ1) (h2 : ∀ ρ1, I ρ1 → ∃ ρ', G ρ1 = some (.nx ρ') ∧ J ρ') : ∃ ρ', seqF F G ρ = some (.nx ρ') ∧ J ρ' := by
  obtain ⟨ρ1, e, i⟩ := h
  obtain ⟨ρ', e2, j⟩ := h2 ρ1 i
  exact ⟨ρ', seq_nx e e2, j⟩
/-! ## draws, once more -/
theorem pickI {xs : List D} {r : Int} (h0 : 0 ≤ r) (h : r < xs.length) : ∃ d, atI xs r = some d ∧ d ∈ xs := by
  obtain ⟨k, rfl⟩ := Int.eq_ofNat_of_zero_le h0
  have hk : k < xs.length := by omega
  refine ⟨xs[k], ?_, List.getElem_mem hk⟩
  rw [atI_natCast, List.getElem?_eq_getElem hk]
end DL

namespace DL
open PySem PySem.Spec
open PyProof.Rows hiding St
open L2
/-! ## a tuple times none or one -/
theorem tuple_mul1 (l : Addr) (items : Array Value) (n : Nat) (dd : Option Addr) (sl : Array (Option Value)) (x : Int) (u : Tok) (c0 : (decide (x < -(2 ^ 63)) || decide (x ≥ 2 ^ 63)) = false) (c1 : (items.isEmpty || x == 1) = true) :
    Meets (Builtin.«tuple.__mul__» ⟨[.ref l, .int x u], []⟩) (fun _ R s => s.heap.get? l = some { cls := .type "tuple", dict := dd, data := .seq items n, slots := sl } ∧ R (.ok (.ret (Value.ref l))) { s with heap := s.heap, toks := s.toks }) :=
  .of_wp fun prog w A R s h => by
    obtain ⟨hp, g, d, tk, os⟩ := s
    obtain ⟨hl, h⟩ := h
    have f1 := AutoSeq1.idx_int
    wp_walk using wpAny_loadPart' hl
    repeat (first
      | (refine wpAny_ite_false (decide_eq_false (by rw [c0]; exact Bool.false_ne_true)) ?_; wp_walk using wpAny_loadPart' hl)
      | (refine wpAny_ite_true (decide_eq_true (by rw [c1])) ?_; wp_walk using wpAny_loadPart' hl))
    exact ⟨_, rfl, h⟩
theorem tuple_mul0 (l : Addr) (items : Array Value) (n : Nat) (dd : Option Addr) (sl : Array (Option Value)) (x : Int) (u : Tok) (c0 : (decide (x < -(2 ^ 63)) || decide (x ≥ 2 ^ 63)) = false) (c1 : (items.isEmpty || x == 1) = false) (c2 : (decide (x ≤ 0) || items.isEmpty) = true) :
    Meets (Builtin.«tuple.__mul__» ⟨[.ref l, .int x u], []⟩) (fun _ R s => s.heap.get? l = some { cls := .type "tuple", dict := dd, data := .seq items n, slots := sl } ∧
      R (.ok (.ret (Value.ref s.heap.objs.size))) { s with heap := s.heap.push { cls := Value.type "tuple", data := Data.seq #[] }, toks := s.toks }) :=
  .of_wp fun prog w A R s h => by
    obtain ⟨hp, g, d, tk, os⟩ := s
    obtain ⟨hl, h⟩ := h
    have f1 := AutoSeq1.idx_int
    wp_walk using wpAny_loadPart' hl
    repeat (first
      | (refine wpAny_ite_false (decide_eq_false (by rw [c0]; exact Bool.false_ne_true)) ?_; wp_walk using wpAny_loadPart' hl)
      | (refine wpAny_ite_false (decide_eq_false (by rw [c1]; exact Bool.false_ne_true)) ?_; wp_walk using wpAny_loadPart' hl)
      | (refine wpAny_ite_true (decide_eq_true (by rw [c2])) ?_; wp_walk using wpAny_loadPart' hl))
    exact ⟨_, rfl, h⟩
def rRep1 (K : PySem.W.Frag) : R2 := fun x y H Q => ∃ l k xs, x = .ref l ∧ y = .int k ∧ SqT K H l xs ∧ -1000 ≤ k ∧ k ≤ 1000 ∧ ((xs.isEmpty || k == 1) = true) ∧ Q (.ref l) H
def rRep0 (K : PySem.W.Frag) : R2 := fun x y H Q => ∃ l k xs, x = .ref l ∧ y = .int k ∧ SqT K H l xs ∧ xs ≠ [] ∧ -1000 ≤ k ∧ k ≤ 0 ∧ ∀ p, H p = none → Q (.ref p) (upd H p (.tup []))
section
variable {X : Cx}
theorem op_rep1 : OpR X (binaryOp .Mult) (rRep1 X.K) := by
  intro pins s σ H x y v u Q I rx ry h
  obtain ⟨l, k, xs, rfl, rfl, hT, h1, h2, hk, q⟩ := h
  cases rx
  obtain ⟨t, rfl⟩ := ry
  obtain ⟨its, r, ⟨⟨cls, dd, data, sl⟩, ho, hc, n, hd⟩, hs⟩ := I.tuple hT
  simp only at hc hd
  subst hc hd
  have hi : its.toArray.isEmpty = xs.isEmpty := by
    have := r.length
    cases its <;> cases xs <;> simp_all
  have c0 : (decide (k < -(2 ^ 63)) || decide (k ≥ 2 ^ 63)) = false := by
    rw [decide_eq_false (by omega), decide_eq_false (by omega)] <;> rfl
  have c1 : (its.toArray.isEmpty || k == 1) = true := by rw [hi]; exact hk
  refine wpAny_binaryOp_repeat_ref (T := "tuple") (U := "int") (by decide) ⟨_, ho, rfl⟩ (fun s' => typeIs_int s' k t) noFill_tuple_mul F.fills_int_mul F.slot_int_rmul repeat_tuple F.slot_int_index.lookup
    (call_meets F.slot_int_rmul (typeIs_int s k t) F.entry_int_rmul (F.args_int_rmul_2 _ _) (int_rmul_tuple k t l its.toArray n dd sl)
      ⟨ho, rfl, ⟨_, ho, rfl⟩, call_meets F.slot_tuple_mul ⟨_, ho, rfl⟩ F.entry_tuple_mul (F.args_tuple_mul_2 _ _) (tuple_mul1 l its.toArray n dd sl k t c0 c1) ⟨ho, ?_⟩⟩)
  exact ⟨.ref l, H, I, rfl, q⟩
theorem op_rep0 : OpR X (binaryOp .Mult) (rRep0 X.K) := by
  intro pins s σ H x y v u Q I rx ry h
  obtain ⟨l, k, xs, rfl, rfl, hT, hne, h1, h2, q⟩ := h
  cases rx
  obtain ⟨t, rfl⟩ := ry
  obtain ⟨its, r, ⟨⟨cls, dd, data, sl⟩, ho, hc, n, hd⟩, hs⟩ := I.tuple hT
  simp only at hc hd
  subst hc hd
  have hi : its.toArray.isEmpty = false := by
    have := r.length
    cases its with
    | nil => cases xs with
      | nil => exact absurd rfl hne
      | cons a b => simp at this
    | cons a b => rfl
  have c0 : (decide (k < -(2 ^ 63)) || decide (k ≥ 2 ^ 63)) = false := by
    rw [decide_eq_false (by omega), decide_eq_false (by omega)] <;> rfl
  have c1 : (its.toArray.isEmpty || k == 1) = false := by
    rw [hi, Bool.false_or]
    exact beq_eq_false_iff_ne.mpr (by omega)
  have c2 : (decide (k ≤ 0) || its.toArray.isEmpty) = true := by
    rw [decide_eq_true h2]; rfl
  refine wpAny_binaryOp_repeat_ref (T := "tuple") (U := "int") (by decide) ⟨_, ho, rfl⟩ (fun s' => typeIs_int s' k t) noFill_tuple_mul F.fills_int_mul F.slot_int_rmul repeat_tuple F.slot_int_index.lookup
    (call_meets F.slot_int_rmul (typeIs_int s k t) F.entry_int_rmul (F.args_int_rmul_2 _ _) (int_rmul_tuple k t l its.toArray n dd sl)
      ⟨ho, rfl, ⟨_, ho, rfl⟩, call_meets F.slot_tuple_mul ⟨_, ho, rfl⟩ F.entry_tuple_mul (F.args_tuple_mul_2 _ _) (tuple_mul0 l its.toArray n dd sl k t c0 c1 c2) ⟨ho, ?_⟩⟩)
  refine ⟨.ref s.heap.objs.size, _, I.laid (t' := s.toks) (o := .tup []) (fun b ob q => Heap.get?_push_of_some _ q) (Nat.le_refl _) ?_, rfl, q _ (I.hok.fresh (Nat.le_refl _))⟩
  exact ⟨by rw [sizeLine_eq]; exact Nat.zero_le _, [], .nil, IsTup.new _ _⟩
abbrev rMulT (K : PySem.W.Frag) : R2 := fun x y H Q => rI CMul (fun i j => .int (i * j)) x y H Q ∨ rRepT K x y H Q ∨ rRep1 K x y H Q ∨ rRep0 K x y H Q
theorem op_mulT : OpR X (binaryOp .Mult) (rMulT X.K) := op_mul.or (op_repT.or (op_rep1.or op_rep0))
end
@[simp] def mulT : D → D → Option D
  | .int i, .int j => if (-18446744073709551616 < i ∧ i < 18446744073709551616) ∨ (-18446744073709551616 < j ∧ j < 18446744073709551616) then some (.int (i * j)) else none
  | .tuple xs, .int k => if xs.length ≤ 1000 ∧ -1000 ≤ k ∧ k ≤ 1000 then some (.tuple (List.replicate k.toNat xs).flatten) else none
  | _, _ => none
theorem RepL.rep {O : Addr → Prop} {H : Hp} {ds : List D} {vs : List V} (r : RepL O H ds vs) : ∀ n : Nat, RepL O H (List.replicate n ds).flatten (List.replicate n vs).flatten
  | 0 => .nil
  | n + 1 => by
    rw [List.replicate_succ, List.replicate_succ, List.flatten_cons, List.flatten_cons]
    exact r.append (RepL.rep r n)
theorem o_mulT {K : PySem.W.Frag} : Op2 (rMulT K) mulT := by
  intro O H d e z x y Q t hf rx ry q
  unfold mulT at hf
  split at hf
  · next i j => exact .inl (o_mul O H (.int i) (.int j) z x y Q t hf rx ry q)
  · next xs k =>
    split at hf
    · next hc =>
      cases hf
      obtain ⟨h1, h2, h3⟩ := hc
      have rx' := rx
      simp only [Rep] at rx
      obtain ⟨a, vs, rfl, ha, r⟩ := rx
      have hl := r.length
      have hk := rep_int.mp ry
      by_cases hv : vs = []
      · subst hv
        have hx : xs = [] := List.length_eq_zero_iff.mp (by simpa using hl)
        subst hx
        refine .inr (.inr (.inl ⟨a, k, [], rfl, hk, .of ha, h2, h3, rfl, q _ H (Same.refl H) ?_⟩))
        have : (List.replicate k.toNat ([] : List D)).flatten = [] := by
          induction k.toNat with
          | zero => rfl
          | succ n ih => rw [List.replicate_succ, List.flatten_cons, ih]; rfl
        rw [this]
        exact rx'
      · by_cases k1 : k = 1
        · subst k1
          refine .inr (.inr (.inl ⟨a, 1, vs, rfl, hk, .of ha, h2, h3, by simp, q _ H (Same.refl H) ?_⟩))
          have : (List.replicate (1 : Int).toNat xs).flatten = xs := by
            show (List.replicate 1 xs).flatten = xs
            simp
          rw [this]
          exact rx'
        · by_cases k0 : k ≤ 0
          · refine .inr (.inr (.inr ⟨a, k, vs, rfl, hk, .of ha, hv, h2, k0, fun p hp => q _ _ (same_upd hp) ?_⟩))
            have : k.toNat = 0 := by omega
            rw [this]
            exact rep_tup hp .nil
          · refine .inr (.inl ⟨a, k, vs, rfl, hk, .of ha, hv, by omega, h3, by omega, fun p hp => q _ _ (same_upd hp) ?_⟩)
            exact rep_tup hp (RepL.rep r _)
    · cases hf
  · cases hf
theorem rep_one (x : D) : ∀ n : Nat, (List.replicate n [x]).flatten = List.replicate n x
  | 0 => rfl
  | n + 1 => by rw [List.replicate_succ, List.flatten_cons, rep_one x n]; rfl
theorem intsD_rep (i : Int) (n : Nat) : List.replicate n (PyData.int i) = intsD (List.replicate n i) := by simp [intsD]
end DL

namespace DL
open PySem PySem.Spec
open PyProof.Rows hiding St
open L2
/-! ## an environment of a known length -/
theorem exS {n : Nat} {ρ : Rho} (h : ρ.length = n + 1) : ∃ x r, ρ = x :: r ∧ r.length = n := match ρ, h with | x :: r, h => ⟨x, r, rfl, Nat.succ.inj h⟩
theorem ex1 {ρ : Rho} (h : ρ.length = 1) : ∃ x, ρ = [x] := match ρ, h with | [x], _ => ⟨x, rfl⟩
theorem ex2 {ρ : Rho} (h : ρ.length = 2) : ∃ x0 x1, ρ = [x0, x1] := by
  obtain ⟨x0, r, rfl, g⟩ := exS h
  obtain ⟨x1, rfl⟩ := ex1 g
  exact ⟨x0, x1, rfl⟩
theorem ex3 {ρ : Rho} (h : ρ.length = 3) : ∃ x0 x1 x2, ρ = [x0, x1, x2] := by
  obtain ⟨x0, r, rfl, g⟩ := exS h
  obtain ⟨x1, x2, rfl⟩ := ex2 g
  exact ⟨x0, x1, x2, rfl⟩
theorem ex4 {ρ : Rho} (h : ρ.length = 4) : ∃ x0 x1 x2 x3, ρ = [x0, x1, x2, x3] := by
  obtain ⟨x0, r, rfl, g⟩ := exS h
  obtain ⟨x1, x2, x3, rfl⟩ := ex3 g
  exact ⟨x0, x1, x2, x3, rfl⟩
theorem ex5 {ρ : Rho} (h : ρ.length = 5) : ∃ x0 x1 x2 x3 x4, ρ = [x0, x1, x2, x3, x4] := by
  obtain ⟨x0, r, rfl, g⟩ := exS h
  obtain ⟨x1, x2, x3, x4, rfl⟩ := ex4 g
  exact ⟨x0, x1, x2, x3, x4, rfl⟩
theorem ex6 {ρ : Rho} (h : ρ.length = 6) : ∃ x0 x1 x2 x3 x4 x5, ρ = [x0, x1, x2, x3, x4, x5] := by
  obtain ⟨x0, r, rfl, g⟩ := exS h
  obtain ⟨x1, x2, x3, x4, x5, rfl⟩ := ex5 g
  exact ⟨x0, x1, x2, x3, x4, x5, rfl⟩
theorem ex7 {ρ : Rho} (h : ρ.length = 7) : ∃ x0 x1 x2 x3 x4 x5 x6, ρ = [x0, x1, x2, x3, x4, x5, x6] := by
  obtain ⟨x0, r, rfl, g⟩ := exS h
  obtain ⟨x1, x2, x3, x4, x5, x6, rfl⟩ := ex6 g
  exact ⟨x0, x1, x2, x3, x4, x5, x6, rfl⟩
theorem ex8 {ρ : Rho} (h : ρ.length = 8) : ∃ x0 x1 x2 x3 x4 x5 x6 x7, ρ = [x0, x1, x2, x3, x4, x5, x6, x7] := by
  obtain ⟨x0, r, rfl, g⟩ := exS h
  obtain ⟨x1, x2, x3, x4, x5, x6, x7, rfl⟩ := ex7 g
  exact ⟨x0, x1, x2, x3, x4, x5, x6, x7, rfl⟩
theorem ex9 {ρ : Rho} (h : ρ.length = 9) : ∃ x0 x1 x2 x3 x4 x5 x6 x7 x8, ρ = [x0, x1, x2, x3, x4, x5, x6, x7, x8] := by
  obtain ⟨x0, r, rfl, g⟩ := exS h
  obtain ⟨x1, x2, x3, x4, x5, x6, x7, x8, rfl⟩ := ex8 g
  exact ⟨x0, x1, x2, x3, x4, x5, x6, x7, x8, rfl⟩
theorem ex10 {ρ : Rho} (h : ρ.length = 10) : ∃ x0 x1 x2 x3 x4 x5 x6 x7 x8 x9, ρ = [x0, x1, x2, x3, x4, x5, x6, x7, x8, x9] := by
  obtain ⟨x0, r, rfl, g⟩ := exS h
  obtain ⟨x1, x2, x3, x4, x5, x6, x7, x8, x9, rfl⟩ := ex9 g
  exact ⟨x0, x1, x2, x3, x4, x5, x6, x7, x8, x9, rfl⟩
theorem ex11 {ρ : Rho} (h : ρ.length = 11) : ∃ x0 x1 x2 x3 x4 x5 x6 x7 x8 x9 x10, ρ = [x0, x1, x2, x3, x4, x5, x6, x7, x8, x9, x10] := by
  obtain ⟨x0, r, rfl, g⟩ := exS h
  obtain ⟨x1, x2, x3, x4, x5, x6, x7, x8, x9, x10, rfl⟩ := ex10 g
  exact ⟨x0, x1, x2, x3, x4, x5, x6, x7, x8, x9, x10, rfl⟩
theorem ex12 {ρ : Rho} (h : ρ.length = 12) : ∃ x0 x1 x2 x3 x4 x5 x6 x7 x8 x9 x10 x11, ρ = [x0, x1, x2, x3, x4, x5, x6, x7, x8, x9, x10, x11] := by
  obtain ⟨x0, r, rfl, g⟩ := exS h
  obtain ⟨x1, x2, x3, x4, x5, x6, x7, x8, x9, x10, x11, rfl⟩ := ex11 g
  exact ⟨x0, x1, x2, x3, x4, x5, x6, x7, x8, x9, x10, x11, rfl⟩
theorem ex13 {ρ : Rho} (h : ρ.length = 13) : ∃ x0 x1 x2 x3 x4 x5 x6 x7 x8 x9 x10 x11 x12, ρ = [x0, x1, x2, x3, x4, x5, x6, x7, x8, x9, x10, x11, x12] := by
  obtain ⟨x0, r, rfl, g⟩ := exS h
  obtain ⟨x1, x2, x3, x4, x5, x6, x7, x8, x9, x10, x11, x12, rfl⟩ := ex12 g
  exact ⟨x0, x1, x2, x3, x4, x5, x6, x7, x8, x9, x10, x11, x12, rfl⟩
theorem ex14 {ρ : Rho} (h : ρ.length = 14) : ∃ x0 x1 x2 x3 x4 x5 x6 x7 x8 x9 x10 x11 x12 x13, ρ = [x0, x1, x2, x3, x4, x5, x6, x7, x8, x9, x10, x11, x12, x13] := by
  obtain ⟨x0, r, rfl, g⟩ := exS h
  obtain ⟨x1, x2, x3, x4, x5, x6, x7, x8, x9, x10, x11, x12, x13, rfl⟩ := ex13 g
  exact ⟨x0, x1, x2, x3, x4, x5, x6, x7, x8, x9, x10, x11, x12, x13, rfl⟩
theorem ex15 {ρ : Rho} (h : ρ.length = 15) : ∃ x0 x1 x2 x3 x4 x5 x6 x7 x8 x9 x10 x11 x12 x13 x14, ρ = [x0, x1, x2, x3, x4, x5, x6, x7, x8, x9, x10, x11, x12, x13, x14] := by
  obtain ⟨x0, r, rfl, g⟩ := exS h
  obtain ⟨x1, x2, x3, x4, x5, x6, x7, x8, x9, x10, x11, x12, x13, x14, rfl⟩ := ex14 g
  exact ⟨x0, x1, x2, x3, x4, x5, x6, x7, x8, x9, x10, x11, x12, x13, x14, rfl⟩
theorem ex16 {ρ : Rho} (h : ρ.length = 16) : ∃ x0 x1 x2 x3 x4 x5 x6 x7 x8 x9 x10 x11 x12 x13 x14 x15, ρ = [x0, x1, x2, x3, x4, x5, x6, x7, x8, x9, x10, x11, x12, x13, x14, x15] := by
  obtain ⟨x0, r, rfl, g⟩ := exS h
  obtain ⟨x1, x2, x3, x4, x5, x6, x7, x8, x9, x10, x11, x12, x13, x14, x15, rfl⟩ := ex15 g
  exact ⟨x0, x1, x2, x3, x4, x5, x6, x7, x8, x9, x10, x11, x12, x13, x14, x15, rfl⟩
theorem ex17 {ρ : Rho} (h : ρ.length = 17) : ∃ x0 x1 x2 x3 x4 x5 x6 x7 x8 x9 x10 x11 x12 x13 x14 x15 x16, ρ = [x0, x1, x2, x3, x4, x5, x6, x7, x8, x9, x10, x11, x12, x13, x14, x15, x16] := by
  obtain ⟨x0, r, rfl, g⟩ := exS h
  obtain ⟨x1, x2, x3, x4, x5, x6, x7, x8, x9, x10, x11, x12, x13, x14, x15, x16, rfl⟩ := ex16 g
  exact ⟨x0, x1, x2, x3, x4, x5, x6, x7, x8, x9, x10, x11, x12, x13, x14, x15, x16, rfl⟩
theorem ex18 {ρ : Rho} (h : ρ.length = 18) : ∃ x0 x1 x2 x3 x4 x5 x6 x7 x8 x9 x10 x11 x12 x13 x14 x15 x16 x17, ρ = [x0, x1, x2, x3, x4, x5, x6, x7, x8, x9, x10, x11, x12, x13, x14, x15, x16, x17] := by
  obtain ⟨x0, r, rfl, g⟩ := exS h
  obtain ⟨x1, x2, x3, x4, x5, x6, x7, x8, x9, x10, x11, x12, x13, x14, x15, x16, x17, rfl⟩ := ex17 g
  exact ⟨x0, x1, x2, x3, x4, x5, x6, x7, x8, x9, x10, x11, x12, x13, x14, x15, x16, x17, rfl⟩
theorem ex19 {ρ : Rho} (h : ρ.length = 19) : ∃ x0 x1 x2 x3 x4 x5 x6 x7 x8 x9 x10 x11 x12 x13 x14 x15 x16 x17 x18, ρ = [x0, x1, x2, x3, x4, x5, x6, x7, x8, x9, x10, x11, x12, x13, x14, x15, x16, x17, x18] := by
  obtain ⟨x0, r, rfl, g⟩ := exS h
  obtain ⟨x1, x2, x3, x4, x5, x6, x7, x8, x9, x10, x11, x12, x13, x14, x15, x16, x17, x18, rfl⟩ := ex18 g
  exact ⟨x0, x1, x2, x3, x4, x5, x6, x7, x8, x9, x10, x11, x12, x13, x14, x15, x16, x17, x18, rfl⟩
theorem ex20 {ρ : Rho} (h : ρ.length = 20) : ∃ x0 x1 x2 x3 x4 x5 x6 x7 x8 x9 x10 x11 x12 x13 x14 x15 x16 x17 x18 x19, ρ = [x0, x1, x2, x3, x4, x5, x6, x7, x8, x9, x10, x11, x12, x13, x14, x15, x16, x17, x18, x19] := by
  obtain ⟨x0, r, rfl, g⟩ := exS h
  obtain ⟨x1, x2, x3, x4, x5, x6, x7, x8, x9, x10, x11, x12, x13, x14, x15, x16, x17, x18, x19, rfl⟩ := ex19 g
  exact ⟨x0, x1, x2, x3, x4, x5, x6, x7, x8, x9, x10, x11, x12, x13, x14, x15, x16, x17, x18, x19, rfl⟩
theorem ex21 {ρ : Rho} (h : ρ.length = 21) : ∃ x0 x1 x2 x3 x4 x5 x6 x7 x8 x9 x10 x11 x12 x13 x14 x15 x16 x17 x18 x19 x20, ρ = [x0, x1, x2, x3, x4, x5, x6, x7, x8, x9, x10, x11, x12, x13, x14, x15, x16, x17, x18, x19, x20] := by
  obtain ⟨x0, r, rfl, g⟩ := exS h
  obtain ⟨x1, x2, x3, x4, x5, x6, x7, x8, x9, x10, x11, x12, x13, x14, x15, x16, x17, x18, x19, x20, rfl⟩ := ex20 g
  exact ⟨x0, x1, x2, x3, x4, x5, x6, x7, x8, x9, x10, x11, x12, x13, x14, x15, x16, x17, x18, x19, x20, rfl⟩
theorem ex22 {ρ : Rho} (h : ρ.length = 22) : ∃ x0 x1 x2 x3 x4 x5 x6 x7 x8 x9 x10 x11 x12 x13 x14 x15 x16 x17 x18 x19 x20 x21, ρ = [x0, x1, x2, x3, x4, x5, x6, x7, x8, x9, x10, x11, x12, x13, x14, x15, x16, x17, x18, x19, x20, x21] := by
  obtain ⟨x0, r, rfl, g⟩ := exS h
  obtain ⟨x1, x2, x3, x4, x5, x6, x7, x8, x9, x10, x11, x12, x13, x14, x15, x16, x17, x18, x19, x20, x21, rfl⟩ := ex21 g
  exact ⟨x0, x1, x2, x3, x4, x5, x6, x7, x8, x9, x10, x11, x12, x13, x14, x15, x16, x17, x18, x19, x20, x21, rfl⟩
theorem ex23 {ρ : Rho} (h : ρ.length = 23) : ∃ x0 x1 x2 x3 x4 x5 x6 x7 x8 x9 x10 x11 x12 x13 x14 x15 x16 x17 x18 x19 x20 x21 x22, ρ = [x0, x1, x2, x3, x4, x5, x6, x7, x8, x9, x10, x11, x12, x13, x14, x15, x16, x17, x18, x19, x20, x21, x22] := by
  obtain ⟨x0, r, rfl, g⟩ := exS h
  obtain ⟨x1, x2, x3, x4, x5, x6, x7, x8, x9, x10, x11, x12, x13, x14, x15, x16, x17, x18, x19, x20, x21, x22, rfl⟩ := ex22 g
  exact ⟨x0, x1, x2, x3, x4, x5, x6, x7, x8, x9, x10, x11, x12, x13, x14, x15, x16, x17, x18, x19, x20, x21, x22, rfl⟩
theorem ex24 {ρ : Rho} (h : ρ.length = 24) : ∃ x0 x1 x2 x3 x4 x5 x6 x7 x8 x9 x10 x11 x12 x13 x14 x15 x16 x17 x18 x19 x20 x21 x22 x23, ρ = [x0, x1, x2, x3, x4, x5, x6, x7, x8, x9, x10, x11, x12, x13, x14, x15, x16, x17, x18, x19, x20, x21, x22, x23] := by
  obtain ⟨x0, r, rfl, g⟩ := exS h
  obtain ⟨x1, x2, x3, x4, x5, x6, x7, x8, x9, x10, x11, x12, x13, x14, x15, x16, x17, x18, x19, x20, x21, x22, x23, rfl⟩ := ex23 g
  exact ⟨x0, x1, x2, x3, x4, x5, x6, x7, x8, x9, x10, x11, x12, x13, x14, x15, x16, x17, x18, x19, x20, x21, x22, x23, rfl⟩
theorem ex25 {ρ : Rho} (h : ρ.length = 25) : ∃ x0 x1 x2 x3 x4 x5 x6 x7 x8 x9 x10 x11 x12 x13 x14 x15 x16 x17 x18 x19 x20 x21 x22 x23 x24, ρ = [x0, x1, x2, x3, x4, x5, x6, x7, x8, x9, x10, x11, x12, x13, x14, x15, x16, x17, x18, x19, x20, x21, x22, x23, x24] := by
  obtain ⟨x0, r, rfl, g⟩ := exS h
  obtain ⟨x1, x2, x3, x4, x5, x6, x7, x8, x9, x10, x11, x12, x13, x14, x15, x16, x17, x18, x19, x20, x21, x22, x23, x24, rfl⟩ := ex24 g
  exact ⟨x0, x1, x2, x3, x4, x5, x6, x7, x8, x9, x10, x11, x12, x13, x14, x15, x16, x17, x18, x19, x20, x21, x22, x23, x24, rfl⟩
theorem ex26 {ρ : Rho} (h : ρ.length = 26) : ∃ x0 x1 x2 x3 x4 x5 x6 x7 x8 x9 x10 x11 x12 x13 x14 x15 x16 x17 x18 x19 x20 x21 x22 x23 x24 x25, ρ = [x0, x1, x2, x3, x4, x5, x6, x7, x8, x9, x10, x11, x12, x13, x14, x15, x16, x17, x18, x19, x20, x21, x22, x23, x24, x25] := by
  obtain ⟨x0, r, rfl, g⟩ := exS h
  obtain ⟨x1, x2, x3, x4, x5, x6, x7, x8, x9, x10, x11, x12, x13, x14, x15, x16, x17, x18, x19, x20, x21, x22, x23, x24, x25, rfl⟩ := ex25 g
  exact ⟨x0, x1, x2, x3, x4, x5, x6, x7, x8, x9, x10, x11, x12, x13, x14, x15, x16, x17, x18, x19, x20, x21, x22, x23, x24, x25, rfl⟩
theorem ex27 {ρ : Rho} (h : ρ.length = 27) : ∃ x0 x1 x2 x3 x4 x5 x6 x7 x8 x9 x10 x11 x12 x13 x14 x15 x16 x17 x18 x19 x20 x21 x22 x23 x24 x25 x26, ρ = [x0, x1, x2, x3, x4, x5, x6, x7, x8, x9, x10, x11, x12, x13, x14, x15, x16, x17, x18, x19, x20, x21, x22, x23, x24, x25, x26] := by
  obtain ⟨x0, r, rfl, g⟩ := exS h
  obtain ⟨x1, x2, x3, x4, x5, x6, x7, x8, x9, x10, x11, x12, x13, x14, x15, x16, x17, x18, x19, x20, x21, x22, x23, x24, x25, x26, rfl⟩ := ex26 g
  exact ⟨x0, x1, x2, x3, x4, x5, x6, x7, x8, x9, x10, x11, x12, x13, x14, x15, x16, x17, x18, x19, x20, x21, x22, x23, x24, x25, x26, rfl⟩
theorem ex28 {ρ : Rho} (h : ρ.length = 28) : ∃ x0 x1 x2 x3 x4 x5 x6 x7 x8 x9 x10 x11 x12 x13 x14 x15 x16 x17 x18 x19 x20 x21 x22 x23 x24 x25 x26 x27, ρ = [x0, x1, x2, x3, x4, x5, x6, x7, x8, x9, x10, x11, x12, x13, x14, x15, x16, x17, x18, x19, x20, x21, x22, x23, x24, x25, x26, x27] := by
  obtain ⟨x0, r, rfl, g⟩ := exS h
  obtain ⟨x1, x2, x3, x4, x5, x6, x7, x8, x9, x10, x11, x12, x13, x14, x15, x16, x17, x18, x19, x20, x21, x22, x23, x24, x25, x26, x27, rfl⟩ := ex27 g
  exact ⟨x0, x1, x2, x3, x4, x5, x6, x7, x8, x9, x10, x11, x12, x13, x14, x15, x16, x17, x18, x19, x20, x21, x22, x23, x24, x25, x26, x27, rfl⟩
theorem ex29 {ρ : Rho} (h : ρ.length = 29) : ∃ x0 x1 x2 x3 x4 x5 x6 x7 x8 x9 x10 x11 x12 x13 x14 x15 x16 x17 x18 x19 x20 x21 x22 x23 x24 x25 x26 x27 x28, ρ = [x0, x1, x2, x3, x4, x5, x6, x7, x8, x9, x10, x11, x12, x13, x14, x15, x16, x17, x18, x19, x20, x21, x22, x23, x24, x25, x26, x27, x28] := by
  obtain ⟨x0, r, rfl, g⟩ := exS h
  obtain ⟨x1, x2, x3, x4, x5, x6, x7, x8, x9, x10, x11, x12, x13, x14, x15, x16, x17, x18, x19, x20, x21, x22, x23, x24, x25, x26, x27, x28, rfl⟩ := ex28 g
  exact ⟨x0, x1, x2, x3, x4, x5, x6, x7, x8, x9, x10, x11, x12, x13, x14, x15, x16, x17, x18, x19, x20, x21, x22, x23, x24, x25, x26, x27, x28, rfl⟩
theorem ex30 {ρ : Rho} (h : ρ.length = 30) : ∃ x0 x1 x2 x3 x4 x5 x6 x7 x8 x9 x10 x11 x12 x13 x14 x15 x16 x17 x18 x19 x20 x21 x22 x23 x24 x25 x26 x27 x28 x29, ρ = [x0, x1, x2, x3, x4, x5, x6, x7, x8, x9, x10, x11, x12, x13, x14, x15, x16, x17, x18, x19, x20, x21, x22, x23, x24, x25, x26, x27, x28, x29] := by
  obtain ⟨x0, r, rfl, g⟩ := exS h
  obtain ⟨x1, x2, x3, x4, x5, x6, x7, x8, x9, x10, x11, x12, x13, x14, x15, x16, x17, x18, x19, x20, x21, x22, x23, x24, x25, x26, x27, x28, x29, rfl⟩ := ex29 g
  exact ⟨x0, x1, x2, x3, x4, x5, x6, x7, x8, x9, x10, x11, x12, x13, x14, x15, x16, x17, x18, x19, x20, x21, x22, x23, x24, x25, x26, x27, x28, x29, rfl⟩
theorem ex31 {ρ : Rho} (h : ρ.length = 31) : ∃ x0 x1 x2 x3 x4 x5 x6 x7 x8 x9 x10 x11 x12 x13 x14 x15 x16 x17 x18 x19 x20 x21 x22 x23 x24 x25 x26 x27 x28 x29 x30, ρ = [x0, x1, x2, x3, x4, x5, x6, x7, x8, x9, x10, x11, x12, x13, x14, x15, x16, x17, x18, x19, x20, x21, x22, x23, x24, x25, x26, x27, x28, x29, x30] := by
  obtain ⟨x0, r, rfl, g⟩ := exS h
  obtain ⟨x1, x2, x3, x4, x5, x6, x7, x8, x9, x10, x11, x12, x13, x14, x15, x16, x17, x18, x19, x20, x21, x22, x23, x24, x25, x26, x27, x28, x29, x30, rfl⟩ := ex30 g
  exact ⟨x0, x1, x2, x3, x4, x5, x6, x7, x8, x9, x10, x11, x12, x13, x14, x15, x16, x17, x18, x19, x20, x21, x22, x23, x24, x25, x26, x27, x28, x29, x30, rfl⟩
theorem ex32 {ρ : Rho} (h : ρ.length = 32) : ∃ x0 x1 x2 x3 x4 x5 x6 x7 x8 x9 x10 x11 x12 x13 x14 x15 x16 x17 x18 x19 x20 x21 x22 x23 x24 x25 x26 x27 x28 x29 x30 x31, ρ = [x0, x1, x2, x3, x4, x5, x6, x7, x8, x9, x10, x11, x12, x13, x14, x15, x16, x17, x18, x19, x20, x21, x22, x23, x24, x25, x26, x27, x28, x29, x30, x31] := by
  obtain ⟨x0, r, rfl, g⟩ := exS h
  obtain ⟨x1, x2, x3, x4, x5, x6, x7, x8, x9, x10, x11, x12, x13, x14, x15, x16, x17, x18, x19, x20, x21, x22, x23, x24, x25, x26, x27, x28, x29, x30, x31, rfl⟩ := ex31 g
  exact ⟨x0, x1, x2, x3, x4, x5, x6, x7, x8, x9, x10, x11, x12, x13, x14, x15, x16, x17, x18, x19, x20, x21, x22, x23, x24, x25, x26, x27, x28, x29, x30, x31, rfl⟩
theorem ex33 {ρ : Rho} (h : ρ.length = 33) : ∃ x0 x1 x2 x3 x4 x5 x6 x7 x8 x9 x10 x11 x12 x13 x14 x15 x16 x17 x18 x19 x20 x21 x22 x23 x24 x25 x26 x27 x28 x29 x30 x31 x32, ρ = [x0, x1, x2, x3, x4, x5, x6, x7, x8, x9, x10, x11, x12, x13, x14, x15, x16, x17, x18, x19, x20, x21, x22, x23, x24, x25, x26, x27, x28, x29, x30, x31, x32] := by
  obtain ⟨x0, r, rfl, g⟩ := exS h
  obtain ⟨x1, x2, x3, x4, x5, x6, x7, x8, x9, x10, x11, x12, x13, x14, x15, x16, x17, x18, x19, x20, x21, x22, x23, x24, x25, x26, x27, x28, x29, x30, x31, x32, rfl⟩ := ex32 g
  exact ⟨x0, x1, x2, x3, x4, x5, x6, x7, x8, x9, x10, x11, x12, x13, x14, x15, x16, x17, x18, x19, x20, x21, x22, x23, x24, x25, x26, x27, x28, x29, x30, x31, x32, rfl⟩
theorem ex34 {ρ : Rho} (h : ρ.length = 34) : ∃ x0 x1 x2 x3 x4 x5 x6 x7 x8 x9 x10 x11 x12 x13 x14 x15 x16 x17 x18 x19 x20 x21 x22 x23 x24 x25 x26 x27 x28 x29 x30 x31 x32 x33, ρ = [x0, x1, x2, x3, x4, x5, x6, x7, x8, x9, x10, x11, x12, x13, x14, x15, x16, x17, x18, x19, x20, x21, x22, x23, x24, x25, x26, x27, x28, x29, x30, x31, x32, x33] := by
  obtain ⟨x0, r, rfl, g⟩ := exS h
  obtain ⟨x1, x2, x3, x4, x5, x6, x7, x8, x9, x10, x11, x12, x13, x14, x15, x16, x17, x18, x19, x20, x21, x22, x23, x24, x25, x26, x27, x28, x29, x30, x31, x32, x33, rfl⟩ := ex33 g
  exact ⟨x0, x1, x2, x3, x4, x5, x6, x7, x8, x9, x10, x11, x12, x13, x14, x15, x16, x17, x18, x19, x20, x21, x22, x23, x24, x25, x26, x27, x28, x29, x30, x31, x32, x33, rfl⟩
theorem ex35 {ρ : Rho} (h : ρ.length = 35) : ∃ x0 x1 x2 x3 x4 x5 x6 x7 x8 x9 x10 x11 x12 x13 x14 x15 x16 x17 x18 x19 x20 x21 x22 x23 x24 x25 x26 x27 x28 x29 x30 x31 x32 x33 x34, ρ = [x0, x1, x2, x3, x4, x5, x6, x7, x8, x9, x10, x11, x12, x13, x14, x15, x16, x17, x18, x19, x20, x21, x22, x23, x24, x25, x26, x27, x28, x29, x30, x31, x32, x33, x34] := by
  obtain ⟨x0, r, rfl, g⟩ := exS h
  obtain ⟨x1, x2, x3, x4, x5, x6, x7, x8, x9, x10, x11, x12, x13, x14, x15, x16, x17, x18, x19, x20, x21, x22, x23, x24, x25, x26, x27, x28, x29, x30, x31, x32, x33, x34, rfl⟩ := ex34 g
  exact ⟨x0, x1, x2, x3, x4, x5, x6, x7, x8, x9, x10, x11, x12, x13, x14, x15, x16, x17, x18, x19, x20, x21, x22, x23, x24, x25, x26, x27, x28, x29, x30, x31, x32, x33, x34, rfl⟩
theorem ex36 {ρ : Rho} (h : ρ.length = 36) : ∃ x0 x1 x2 x3 x4 x5 x6 x7 x8 x9 x10 x11 x12 x13 x14 x15 x16 x17 x18 x19 x20 x21 x22 x23 x24 x25 x26 x27 x28 x29 x30 x31 x32 x33 x34 x35, ρ = [x0, x1, x2, x3, x4, x5, x6, x7, x8, x9, x10, x11, x12, x13, x14, x15, x16, x17, x18, x19, x20, x21, x22, x23, x24, x25, x26, x27, x28, x29, x30, x31, x32, x33, x34, x35] := by
  obtain ⟨x0, r, rfl, g⟩ := exS h
  obtain ⟨x1, x2, x3, x4, x5, x6, x7, x8, x9, x10, x11, x12, x13, x14, x15, x16, x17, x18, x19, x20, x21, x22, x23, x24, x25, x26, x27, x28, x29, x30, x31, x32, x33, x34, x35, rfl⟩ := ex35 g
  exact ⟨x0, x1, x2, x3, x4, x5, x6, x7, x8, x9, x10, x11, x12, x13, x14, x15, x16, x17, x18, x19, x20, x21, x22, x23, x24, x25, x26, x27, x28, x29, x30, x31, x32, x33, x34, x35, rfl⟩
theorem ex37 {ρ : Rho} (h : ρ.length = 37) : ∃ x0 x1 x2 x3 x4 x5 x6 x7 x8 x9 x10 x11 x12 x13 x14 x15 x16 x17 x18 x19 x20 x21 x22 x23 x24 x25 x26 x27 x28 x29 x30 x31 x32 x33 x34 x35 x36, ρ = [x0, x1, x2, x3, x4, x5, x6, x7, x8, x9, x10, x11, x12, x13, x14, x15, x16, x17, x18, x19, x20, x21, x22, x23, x24, x25, x26, x27, x28, x29, x30, x31, x32, x33, x34, x35, x36] := by
  obtain ⟨x0, r, rfl, g⟩ := exS h
  obtain ⟨x1, x2, x3, x4, x5, x6, x7, x8, x9, x10, x11, x12, x13, x14, x15, x16, x17, x18, x19, x20, x21, x22, x23, x24, x25, x26, x27, x28, x29, x30, x31, x32, x33, x34, x35, x36, rfl⟩ := ex36 g
  exact ⟨x0, x1, x2, x3, x4, x5, x6, x7, x8, x9, x10, x11, x12, x13, x14, x15, x16, x17, x18, x19, x20, x21, x22, x23, x24, x25, x26, x27, x28, x29, x30, x31, x32, x33, x34, x35, x36, rfl⟩
theorem ex38 {ρ : Rho} (h : ρ.length = 38) : ∃ x0 x1 x2 x3 x4 x5 x6 x7 x8 x9 x10 x11 x12 x13 x14 x15 x16 x17 x18 x19 x20 x21 x22 x23 x24 x25 x26 x27 x28 x29 x30 x31 x32 x33 x34 x35 x36 x37, ρ = [x0, x1, x2, x3, x4, x5, x6, x7, x8, x9, x10, x11, x12, x13, x14, x15, x16, x17, x18, x19, x20, x21, x22, x23, x24, x25, x26, x27, x28, x29, x30, x31, x32, x33, x34, x35, x36, x37] := by
  obtain ⟨x0, r, rfl, g⟩ := exS h
  obtain ⟨x1, x2, x3, x4, x5, x6, x7, x8, x9, x10, x11, x12, x13, x14, x15, x16, x17, x18, x19, x20, x21, x22, x23, x24, x25, x26, x27, x28, x29, x30, x31, x32, x33, x34, x35, x36, x37, rfl⟩ := ex37 g
  exact ⟨x0, x1, x2, x3, x4, x5, x6, x7, x8, x9, x10, x11, x12, x13, x14, x15, x16, x17, x18, x19, x20, x21, x22, x23, x24, x25, x26, x27, x28, x29, x30, x31, x32, x33, x34, x35, x36, x37, rfl⟩
theorem ex39 {ρ : Rho} (h : ρ.length = 39) : ∃ x0 x1 x2 x3 x4 x5 x6 x7 x8 x9 x10 x11 x12 x13 x14 x15 x16 x17 x18 x19 x20 x21 x22 x23 x24 x25 x26 x27 x28 x29 x30 x31 x32 x33 x34 x35 x36 x37 x38, ρ = [x0, x1, x2, x3, x4, x5, x6, x7, x8, x9, x10, x11, x12, x13, x14, x15, x16, x17, x18, x19, x20, x21, x22, x23, x24, x25, x26, x27, x28, x29, x30, x31, x32, x33, x34, x35, x36, x37, x38] := by
  obtain ⟨x0, r, rfl, g⟩ := exS h
  obtain ⟨x1, x2, x3, x4, x5, x6, x7, x8, x9, x10, x11, x12, x13, x14, x15, x16, x17, x18, x19, x20, x21, x22, x23, x24, x25, x26, x27, x28, x29, x30, x31, x32, x33, x34, x35, x36, x37, x38, rfl⟩ := ex38 g
  exact ⟨x0, x1, x2, x3, x4, x5, x6, x7, x8, x9, x10, x11, x12, x13, x14, x15, x16, x17, x18, x19, x20, x21, x22, x23, x24, x25, x26, x27, x28, x29, x30, x31, x32, x33, x34, x35, x36, x37, x38, rfl⟩
theorem ex40 {ρ : Rho} (h : ρ.length = 40) : ∃ x0 x1 x2 x3 x4 x5 x6 x7 x8 x9 x10 x11 x12 x13 x14 x15 x16 x17 x18 x19 x20 x21 x22 x23 x24 x25 x26 x27 x28 x29 x30 x31 x32 x33 x34 x35 x36 x37 x38 x39, ρ = [x0, x1, x2, x3, x4, x5, x6, x7, x8, x9, x10, x11, x12, x13, x14, x15, x16, x17, x18, x19, x20, x21, x22, x23, x24, x25, x26, x27, x28, x29, x30, x31, x32, x33, x34, x35, x36, x37, x38, x39] := by
  obtain ⟨x0, r, rfl, g⟩ := exS h
  obtain ⟨x1, x2, x3, x4, x5, x6, x7, x8, x9, x10, x11, x12, x13, x14, x15, x16, x17, x18, x19, x20, x21, x22, x23, x24, x25, x26, x27, x28, x29, x30, x31, x32, x33, x34, x35, x36, x37, x38, x39, rfl⟩ := ex39 g
  exact ⟨x0, x1, x2, x3, x4, x5, x6, x7, x8, x9, x10, x11, x12, x13, x14, x15, x16, x17, x18, x19, x20, x21, x22, x23, x24, x25, x26, x27, x28, x29, x30, x31, x32, x33, x34, x35, x36, x37, x38, x39, rfl⟩
end DL

namespace DL
open PySem PySem.Spec
open PyProof.Rows hiding St
open L2
/-! ## a slice of what is drawn -/
@[simp] def slE (f : Rho → Option (D × Rho)) (gl gh : Rho → Option (Option Int)) : Rho → Option (D × Rho) := fun ρ => (f ρ).bind fun p => (gl p.2).bind fun lo => (gh p.2).bind fun hi => (slcD p.1 lo hi).bind fun z => some (z, p.2)
section
variable {X : Cx} {B : Base} {m : Md} {e : Expr} {lo hi : Option Expr} {g : Rho → Option D} {f : Rho → Option (D × Rho)} {gl gh : Rho → Option (Option Int)} {pos p2 : Pos}
theorem de_slice (he : DE X B e f) (hl : DPO X B .str lo gl) (hh : DPO X B .str hi gh) : DE X B (.Subscript e (.Slice lo hi none p2) pos) (slE f gl gh) :=
  ⟨(pe_slice (sl_list.or sl_tupA) he.pe hl.po hh.po).imp fun σ H Q ⟨O, ρ, d, ρ', gd, e, q⟩ => by
    obtain ⟨⟨x, ρ1⟩, e1, e'⟩ := bind_some e
    obtain ⟨l, e2, e''⟩ := bind_some e'
    obtain ⟨h, e3, e4⟩ := bind_some e''
    obtain ⟨z, e5, e6⟩ := bind_some e4
    cases e6
    refine ⟨O, ρ, x, _, gd, e1, fun v H1 s1 r1 => ⟨O, _, l, s1.good, e2, fun H2 s2 => ⟨O, _, h, s1.good.same s2, e3, fun H3 s3 => ?_⟩⟩⟩
    have s13 := (s1.samr s2).samr s3
    have r3 := (r1.same s2).same s3
    cases x with
    | list xs =>
      cases e5
      simp only [Rep] at r3
      obtain ⟨a, vs, rfl, no, ha, r⟩ := r3
      exact .inl ⟨a, vs, rfl, .of ha, fun p hp => q _ _ (s13.samr (same_upd hp)) (rep_lst (s13.good.otr .str) hp (cut_rep r))⟩
    | tuple xs =>
      cases e5
      simp only [Rep] at r3
      obtain ⟨a, vs, rfl, ha, r⟩ := r3
      refine .inr ⟨a, vs, rfl, .of ha, fun hw => ?_, fun _ p hp => q _ _ (s13.samr (same_upd hp)) (rep_tup hp (cut_rep r))⟩
      refine q _ H3 s13 ?_
      have hc : cutV vs l h = vs := by
        unfold cutV
        rw [hw.1, hw.2]
        simp
      have := cut_rep (lo := l) (hi := h) r
      rw [hc] at this
      simp only [Rep]
      exact ⟨a, vs, rfl, ha, this⟩
    | _ => cases e5⟩
end
/-! ## list(range(..)) -/
@[simp] def lrgD : List D → Option D
  | [.int j] => if -1000000 ≤ j ∧ j ≤ 1000000 then some (.list (rngL 0 j.toNat)) else none
  | [.int i, .int j] => if -1000000 ≤ i ∧ i ≤ 1000000 ∧ -1000000 ≤ j ∧ j ≤ 1000000 then some (.list (rngL i (j - i).toNat)) else none
  | _ => none
theorem rep_rg {O : Addr → Prop} {H : Hp} (a b : Int) : RepL O H (rngL a (b - a).toNat) (rgV a b) := by
  unfold rngL rgV
  generalize (b - a).toNat = n
  induction List.range n with
  | nil => exact .nil
  | cons k ks ih => exact .cons (rep_int.mpr rfl) ih
section
variable {X : Cx} {B : Base} {m : Md} {a b e : Expr} {ga gb : Rho → Option D} {pos p pos2 q2 : Pos}
theorem dp_lrg1 (hc : X.calm = true) (hm : X.mg "list" = none) (hr : X.mg "range" = none) (ha : DP X B m a ga) (hg : Gl X "list" := by rfl) (hgr : Gl X "range" := by rfl) (na : starEach [a] X.env = (false, eval a X.env) :: starEach [] X.env := by rfl)
    (nl : starEach [Expr.Call (.Name "range" q2) [a] [] pos2] X.env = (false, eval (.Call (.Name "range" q2) [a] [] pos2) X.env) :: starEach [] X.env := by rfl) :
    DP X B m (.Call (.Name "list" p) [.Call (.Name "range" q2) [a] [] pos2] [] pos) (nD (consA ga nilA) lrgD) :=
  ⟨(pe_listRg hc hg hm (prg_1 hgr hr ha.pe na) nl).imp fun σ H Q ⟨O, ρ, d, gd, e, q⟩ => by
    obtain ⟨ds, e1, e2⟩ := bind_some e
    obtain ⟨d1, e3, e4⟩ := bind_some e1
    cases e4
    refine ⟨O, ρ, d1, gd, e3, fun v H1 s1 r1 => ?_⟩
    cases d1 with
    | int j =>
      simp only [lrgD] at e2
      split at e2
      · next hj =>
        cases e2
        refine ⟨j, rep_int.mp r1, ⟨by omega, by omega, by omega, by omega, by omega⟩, fun l hl => q _ _ (s1.trans (same_upd hl)) (rep_lst ((gd.same s1).otr m) hl ?_)⟩
        have := rep_rg (O := m.O B O) (H := H1) 0 j
        rwa [Int.sub_zero] at this
      · cases e2
    | _ => simp [lrgD] at e2⟩
theorem dp_lrg2 (hc : X.calm = true) (hm : X.mg "list" = none) (hr : X.mg "range" = none) (ha : DP X B m a ga) (hb : DP X B m b gb) (hg : Gl X "list" := by rfl) (hgr : Gl X "range" := by rfl) (na : starEach [a, b] X.env = (false, eval a X.env) :: starEach [b] X.env := by rfl)
    (nb : starEach [b] X.env = (false, eval b X.env) :: starEach [] X.env := by rfl) (hp : (backTo pos2 (starEach [b] X.env)).any (·.1) = false := by rfl)
    (nl : starEach [Expr.Call (.Name "range" q2) [a, b] [] pos2] X.env = (false, eval (.Call (.Name "range" q2) [a, b] [] pos2) X.env) :: starEach [] X.env := by rfl) :
    DP X B m (.Call (.Name "list" p) [.Call (.Name "range" q2) [a, b] [] pos2] [] pos) (nD (consA ga (consA gb nilA)) lrgD) :=
  ⟨(pe_listRg hc hg hm (prg_2 hgr hr ha.pe hb.pe na nb hp) nl).imp fun σ H Q ⟨O, ρ, d, gd, e, q⟩ => by
    obtain ⟨ds, e1, e2⟩ := bind_some e
    obtain ⟨d1, e3, e4⟩ := bind_some e1
    obtain ⟨ds2, e5, e6⟩ := bind_some e4
    obtain ⟨d2, e7, e8⟩ := bind_some e5
    cases e8
    cases e6
    refine ⟨O, ρ, d1, gd, e3, fun v H1 s1 r1 => ⟨O, ρ, d2, gd.same s1, e7, fun w H2 s2 r2 => ?_⟩⟩
    cases d1 with
    | int i =>
      cases d2 with
      | int j =>
        simp only [lrgD] at e2
        split at e2
        · next hj =>
          cases e2
          refine ⟨i, j, rep_int.mp (r1.same s2), rep_int.mp r2, ⟨by omega, by omega, by omega, by omega, by omega⟩, fun l hl => q _ _ ((s1.trans s2).trans (same_upd hl)) (rep_lst ((gd.same (s1.trans s2)).otr m) hl (rep_rg i j))⟩
        · cases e2
      | _ => simp [lrgD] at e2
    | _ => simp [lrgD] at e2⟩
end
end DL

namespace DL
open PySem PySem.Spec
open PyProof.Rows hiding St
open L2
/-! ## defs with a star parameter -/
structure FnV (P : Program) (w : World) (K : PySem.W.Frag) (mg : Str → Option Value) (base : Heap) (k : Nat) (x : Str) (F : List D → Option D) : Prop where
  ex : ∃ f, FnR P w K mg base CX0 k f (spP F) ∧ mg x = some (.ref f) ∧ PySem.W.keepIn K (.ref f) = true
structure StarAt (K : PySem.W.Frag) (mg : Str → Option Value) (x : Str) (st : Stmt) (ps : List Str) (pv : Str) : Prop where
  ex : ∃ f fd, L2.Fun K x x st f fd ∧ (∀ us rest : List Value, us.length = ps.length → bindArgs fd ⟨us ++ rest, []⟩ = (newTuple rest >>= fun t => pure (ps.zip us ++ [(pv, t)]))) ∧ mg x = some (.ref f)
@[simp] def starF (n tot : Nat) (b : Rho → Option Out) : List D → Option D := fun ds => if n ≤ ds.length ∧ ds.length ≤ 100000 then runF (n + 1) tot b (ds.take n ++ [.tuple (ds.drop n)]) else none
section
variable {P : Program} {w : World} {K : PySem.W.Frag} {mg : Str → Option Value} {base : Heap}
theorem fnv_mk {x pv : Str} {st : Stmt} {f : Addr} {fd : FuncData} {N ps : List Str} {k n tot : Nat} {b : Rho → Option Out} (F : L2.Fun K x x st f fd) (S : FnScope N (ps ++ [pv]) (defScope st))
    (hbd : ∀ us rest : List Value, us.length = ps.length → bindArgs fd ⟨us ++ rest, []⟩ = (newTuple rest >>= fun t => pure (ps.zip us ++ [(pv, t)]))) (hm : mg x = some (.ref f)) (hN : N.length = tot) (hn : ps.length = n)
    (hb : ∀ (B : Base) (cdv : Value) (A : Around) (outer : List PySem.Env) (s : Shared) (H : Hp) (E : XK), Room k (A.deeper (envOfC x (defScope st) s.heap.objs.size f cdv)) → DSs (cxOf CX0 P w K mg base N x (defScope st) f cdv A outer s H E).nox B (defBody st) b) :
    FnV P w K mg base (k + 1) x (starF n tot b) := by
  have hpl : (ps ++ [pv]).length ≤ N.length := by have := congrArg List.length S.pre; rw [List.length_take] at this; omega
  rw [List.length_append, List.length_singleton] at hpl
  have kp := F.kp
  obtain ⟨oc, od, kV, doc, pm, an, cdv, ct, osl, rfl, lk, hcd⟩ := F.ex
  refine ⟨f, FnR.imp (StX.fn_star (CX := CX0) (sp := spP (runF (n + 1) tot b)) lk hcd S StX.cxUp_none hbd fun A outer s H vs Q E hr h => ?_) fun vs H Q E h => ?_, hm, kp⟩
  · obtain ⟨O, ds, d, t, r, e, q⟩ := h
    unfold runF at e
    split at e
    · next hl =>
      obtain ⟨o, e1, e2⟩ := bind_some e
      refine ⟨_, (hb ⟨H, O, fun _ => False⟩ cdv A outer s H E hr).ps.nox, O, startR tot ds, o, good_start t r hN (by omega), e1, ?_⟩
      cases o with
      | nx ρ' =>
        cases e2
        exact fun σ' H' O' s3 g3 => q _ H' (fun b o e => g3.frame b o e fun z => z) (rep_none.mpr rfl)
      | rt z ρ' =>
        cases e2
        exact fun v σ' H' O' s3 g3 r3 => q v H' (fun b o e => g3.frame b o e fun z => z) r3
    · cases e
  · obtain ⟨O, ds, d, t, r, e, q⟩ := h
    unfold starF at e
    split at e
    · next hl =>
      have hlen := r.length
      refine ⟨vs.take n, vs.drop n, (List.take_append_drop n vs).symm, by rw [List.length_take]; omega, line_le (by rw [List.length_drop]; omega), fun p hp => ?_⟩
      refine ⟨O, _, d, fun b h => (same_upd hp).ne (t b h), ?_, e, fun v H' s' r' => q v H' ((same_upd hp).trans s') r'⟩
      exact (rep_upd hp (r.take n)).append (.one (rep_tup hp (r.drop n)))
    · cases e
end
section
variable {X : Cx} {B : Base} {m : Md} {e : Expr} {es : List Expr} {gs : Rho → Option (List D)} {fs : Rho → Option (List D × Rho)} {p pos : Pos}
theorem pe_callR {CX : CXT} {k : Nat} {f : Addr} {sp : Sp} {E : XK} {x : Str} {t : TA} (F : FnR X.prog X.w X.K X.mg X.base CX k f sp) (hr : Room k X.A) (hg : Gl X x) (hm : X.mg x = some (.ref f)) (hk : PySem.W.keepIn X.K (.ref f) = true) (hx : Passes CX X E) (ha : PA X (e :: es) t) (hdb : (x == ("__debug__" : Str)) = false := by decide)
    (he : starEach (e :: es) X.env = (false, eval e X.env) :: starEach es X.env := by rfl) (hpl : (backTo pos (starEach es X.env)).any (·.1) = false := by rfl) : PE X (.Call (.Name x p) (e :: es) [] pos) (fun σ H Q => t σ H fun vs H1 => sp vs H1 Q E) := by
  refine ⟨fun pins s σ H Q I h => ?_⟩
  refine wpAny_Call_Name_kw (ld_glob I hg hm ?_ hdb)
  refine PySem.W.callWith_K (h₀ := X.base) I.ok.mod.kin hk (thn (ha.run pos pins s σ H _ I h) fun us s1 ⟨vs, H1, I1, r, q⟩ => ⟨I1.kIn, ?_⟩) he hpl
  exact wpAny_call (run_fnR F hr hx I1 r q)
theorem dp_callV {x : Str} {k j : Nat} {F : List D → Option D} (hF : FnV X.prog X.w X.K X.mg X.base k x F) (hr : Room j X.A) (hk : k ≤ j) (ha : DPA X B m (e :: es) gs) (hg : Gl X x := by rfl) (hdb : (x == ("__debug__" : Str)) = false := by decide)
    (he : starEach (e :: es) X.env = (false, eval e X.env) :: starEach es X.env := by rfl) (hpl : (backTo pos (starEach es X.env)).any (·.1) = false := by rfl) : DP X B m (.Call (.Name x p) (e :: es) [] pos) (nD gs F) := by
  obtain ⟨fa, G, hm, kp⟩ := hF.ex
  refine dp_n (t := fun t σ H Q => t σ H fun vs H1 => spP F vs H1 Q E0) (fun h => pe_callR G (hr.mono hk) hg hm kp pass0 h hdb he hpl) F (fun σ H Q O ρ ds z gd e1 e2 q => ⟨O, ρ, ds, gd, e1, fun vs H1 s1 r1 => ?_⟩) ha
  exact ⟨_, ds, z, (gd.same s1).otr m, r1, e2, fun v H2 s2 r2 => q v H2 (s1.trans s2) r2⟩
theorem de_callV {x : Str} {k j : Nat} {F : List D → Option D} (hF : FnV X.prog X.w X.K X.mg X.base k x F) (hr : Room j X.A) (hk : k ≤ j) (ha : DEA X B (e :: es) fs) (hg : Gl X x := by rfl) (hdb : (x == ("__debug__" : Str)) = false := by decide)
    (he : starEach (e :: es) X.env = (false, eval e X.env) :: starEach es X.env := by rfl) (hpl : (backTo pos (starEach es X.env)).any (·.1) = false := by rfl) : DE X B (.Call (.Name x p) (e :: es) [] pos) (nE fs F) := by
  obtain ⟨fa, G, hm, kp⟩ := hF.ex
  refine de_n (t := fun t σ H Q => t σ H fun vs H1 => spP F vs H1 Q E0) (fun h => pe_callR G (hr.mono hk) hg hm kp pass0 h hdb he hpl) F (fun σ H Q O ρ ρ' ds z gd e1 e2 q => ⟨O, ρ, ds, ρ', gd, e1, fun vs H1 s1 r1 => ?_⟩) ha
  exact ⟨_, ds, z, s1.good.otr .str, r1, e2, fun v H2 s2 r2 => q v H2 (s1.samr s2) r2⟩
end
end DL

namespace DL
open PySem PySem.Spec
open PyProof.Rows hiding St
open L2
/-! ## the set of a list of whole numbers -/
abbrev bareSet (w : World) : Obj := { cls := .type "set", dict := none, data := .set #[] 0 (.fresh 0 0 (!w.params.followText "set-order")) }
section
variable {P : Program} {w : World} {A : Around} {E : Value → Shared → Prop} {s : Shared}
theorem set_fill {l S : Addr} {items : Array Value} (ns : List Int) {h0 : Heap} {s1 : Shared} {R : Result → Shared → Prop} (hh : A.handled = none) (es : s1.heap = h0.push (bareSet w)) (eS : S = h0.objs.size) (hl : h0.IsList l items) (hit : IntsAre items.toList ns) (hb : ns.length + 1 < scanBound)
    (hR : ∀ (h' : Heap) (tk c : Nat), SetR w h' S (fun j => decide (j ∈ ns)) c → c ≤ ns.length → (∀ b o, h0.get? b = some o → h'.get? b = some o) → R (.ok (.ret .none)) { s1 with heap := h', toks := tk }) :
    codeAny (model P w) A (.builtin "set.update.loop" ⟨[.ref S, .ref (h0.objs.size + 1)], []⟩) R { s1 with heap := s1.heap.push { cls := .type "list_iterator", data := .fields #[.ref l, .int 0 0] } } := by
  subst eS
  have nn : items.size = ns.length := (Array.length_toList (xs := items)).symm.trans (IntsAre.length hit)
  obtain ⟨ob, gob, cob, kob, dob⟩ := id hl
  have ll : l < h0.objs.size := Heap.lt_size gob
  have sz1 : s1.heap.objs.size = h0.objs.size + 1 := by rw [es]; exact Heap.size_push ..
  have gS : s1.heap.get? h0.objs.size = some (bareSet w) := by rw [es]; exact Heap.get?_push_size _ rfl
  have up : ∀ b o, h0.get? b = some o → s1.heap.get? b = some o := fun b o e => by rw [es]; exact Heap.get?_push_of_some _ e
  have hl1 : s1.heap.IsList l items := ⟨ob, up _ _ gob, cob, kob, dob⟩
  have nin : h0.objs.size ∉ [h0.objs.size + 1, l] := fun z => by
    rcases List.mem_cons.mp z with e | e
    · exact Nat.ne_of_lt (Nat.lt_succ_self _) e
    · rcases List.mem_cons.mp e with e | e
      · exact Nat.lt_irrefl _ (e ▸ ll)
      · cases e
  have at_ : ∀ (i : Nat) (v : Value), items[i]? = some v → ∃ k t, ns[i]? = some k ∧ v = .int k t := fun i v e => by
    have hi : i < ns.length := nn ▸ (Array.getElem?_eq_some_iff.mp e).1
    obtain ⟨t, q⟩ := IntsAre.int_at hit i v ((Array.getElem?_toList).trans e)
    exact ⟨ns[i], t, List.getElem?_eq_getElem hi, by rw [q, List.getD_eq_getElem?_getD, List.getElem?_eq_getElem hi]; rfl⟩
  rw [← sz1]
  refine set_update_ints ((Walks.list (by simp [hh]) s1.heap.objs.size l (by rw [sz1]; exact Nat.ne_of_lt (Nat.lt_succ_of_lt ll)) items).toS) h0.objs.size (by rw [sz1]; exact nin) ns nn hb at_ items.size 0 _ (by omega) (Nat.zero_le _) ⟨⟨_, Heap.get?_push_size _ rfl, rfl, rfl⟩, hl1.push _⟩ ⟨0, Nat.le_refl 0, setR_new_at (Heap.get?_push_of_some _ gS)⟩ fun s' c mv le r => ?_
  obtain ⟨h', g, d, tk, os⟩ := s'
  obtain rfl : g = s1.gens := mv.gens
  obtain rfl : d = s1.drawn := mv.drawn
  obtain rfl : os = s1.os := mv.os
  refine hR h' tk c r (nn ▸ le) fun b o e => mv.heap b o ?_ (Heap.get?_push_of_some _ (up b o e))
  have bl := Heap.lt_size e
  rw [sz1]
  intro z
  rcases List.mem_cons.mp z with q | q
  · exact Nat.lt_irrefl _ (q ▸ bl)
  · rcases List.mem_cons.mp q with q | q
    · exact Nat.lt_irrefl _ (Nat.lt_of_succ_lt (q ▸ bl))
    · cases q
theorem call_setL {l : Addr} {items : Array Value} (ns : List Int) {Q : Value → Shared → Prop} (hh : A.handled = none) (hl : s.heap.IsList l items) (hit : IntsAre items.toList ns) (hb : ns.length + 1 < scanBound)
    (h : ∀ (h' : Heap) (tk c : Nat), SetR w h' s.heap.objs.size (fun j => decide (j ∈ ns)) c → c ≤ ns.length → (∀ b o, s.heap.get? b = some o → h'.get? b = some o) → Q (.ref s.heap.objs.size) { s with heap := h', toks := tk }) : wpAny (model P w) A (call (.type "set") [.ref l]) Q E s := by
  obtain ⟨mc, mt, mm⟩ := F.called_set.mro
  have ma := F.called_set.made; have su := F.called_set.sub
  refine wpAny_call (codeAny_of_tree (wpAny_pure (a := _) ⟨Code.quiet_builtin _ (by decide +kernel), codeAny_builtin F.entry_type_call ?_⟩))
  rw [Around.under_plain (weight_type_call_type "set" [.ref l] []) rfl]
  have n1 := F.called_set.notType; have n2 := F.called_set.canCreate; have n3 := F.typeCall_set_1 (.ref l)
  repeat (any_goals (first | assumption | wp_step))
  refine codeAny_mono (code_set_led1 (.ref l) (E := E) (Q₁ := fun x y => x = .ref s.heap.objs.size ∧ y = { s with heap := s.heap.push (bareSet w) }) ⟨rfl, rfl⟩) fun r y hr => ?_
  cases r with
  | error e => exact hr
  | ok fl =>
    cases fl with
    | brk => exact hr.elim
    | cont => exact hr.elim
    | next => exact hr.elim
    | ret obj =>
      obtain ⟨rfl, rfl⟩ := hr
      have gS : (s.heap.push (bareSet w)).get? s.heap.objs.size = some (bareSet w) := Heap.get?_push_size _ rfl
      have tS : Shared.TypeIs { s with heap := s.heap.push (bareSet w) } (.ref s.heap.objs.size) "set" := ⟨_, gS, rfl⟩
      have i1 := F.called_set.init.lookup; have i2 := F.called_set.init.bind (.ref s.heap.objs.size)
      repeat (any_goals (first | assumption | wp_step))
      refine codeAny_mono (codeAny_call_builtin (R := wants (fun r z => r = .none ∧ ∃ h' tk c, z = { s with heap := h', toks := tk } ∧ SetR w h' s.heap.objs.size (fun j => decide (j ∈ ns)) c ∧ c ≤ ns.length ∧ ∀ b o, s.heap.get? b = some o → h'.get? b = some o) E) F.called_set.init.plain F.entry_set_init (check_set_init_1 tS ?_)) fun r z hz => ?_
      · have hl0 := hl
        obtain ⟨⟨cl, dd, dt, sl⟩, go, hc, kn, hd⟩ := hl
        simp only at hc hd
        subst hc hd
        have go' : (s.heap.push (bareSet w)).get? l = some { cls := .type "list", dict := dd, data := .seq items kn, slots := sl } := Heap.get?_push_of_some _ go
        have q1 := F.sub_list_set; have q2 := F.sub_list_frozenset
        have q3 : (Value.type "list" == Value.type "dict") = false := by decide
        unfold Builtin.«set.__init__» noKeywords Builtin.Frozenset.updateFrom
        generalize hP : pyIter = PI
        wp_walk
        subst hP
        refine wpAny_pyIter_list ⟨_, go', rfl, kn, rfl⟩ (wpAny_bind (wpAny_runValue ?_))
        have e1 : (s.heap.push (bareSet w)).objs.size = s.heap.objs.size + 1 := Heap.size_push ..
        rw [e1]
        refine set_fill (s1 := { s with heap := s.heap.push (bareSet w) }) ns (by simp [hh]) rfl rfl hl0 hit hb fun h' tk c r le kp => ?_
        show wpAny _ _ _ _ _ _
        refine wpAny_pure ?_
        show wpAny _ _ (ret Value.none) _ _ _
        exact wpAny_pure ⟨rfl, h', tk, c, rfl, r, le, kp⟩
      · cases r with
        | error e => exact hz
        | ok f2 =>
          cases f2 with
          | ret r =>
            obtain ⟨rfl, h', tk, c, rfl, r, le, kp⟩ := hz
            repeat (any_goals (first | assumption | wp_step))
            exact h h' tk c r le kp
          | brk => exact hz.elim
          | cont => exact hz.elim
          | next => exact hz.elim
end
end DL

namespace DL
open PySem PySem.Spec
open PyProof.Rows hiding St
open L2
/-! ## sorted(set(xs)) -/
def insU (n : Int) : List Int → List Int
  | [] => [n]
  | m :: ms => if n < m then n :: m :: ms else if n = m then m :: ms else m :: insU n ms
def sortU : List Int → List Int
  | [] => []
  | n :: ns => insU n (sortU ns)
theorem insU_mem (n k : Int) : ∀ ms : List Int, k ∈ insU n ms ↔ k = n ∨ k ∈ ms
  | [] => by simp [insU]
  | m :: ms => by
    unfold insU
    split
    · simp
    · split
      · next h => subst h; simp
      · rw [List.mem_cons, insU_mem n k ms, List.mem_cons]
        constructor
        · rintro (h | h | h)
          · exact .inr (.inl h)
          · exact .inl h
          · exact .inr (.inr h)
        · rintro (h | h | h)
          · exact .inr (.inl h)
          · exact .inl h
          · exact .inr (.inr h)
theorem sortU_mem (k : Int) : ∀ ns : List Int, k ∈ sortU ns ↔ k ∈ ns
  | [] => by simp [sortU]
  | n :: ns => by rw [sortU, insU_mem, sortU_mem k ns, List.mem_cons]
theorem insU_lt (n : Int) : ∀ ms : List Int, ms.Pairwise (· < ·) → (insU n ms).Pairwise (· < ·)
  | [], _ => by simp [insU]
  | m :: ms, h => by
    have h' := List.pairwise_cons.mp h
    unfold insU
    split
    · next q =>
      refine List.pairwise_cons.mpr ⟨fun k hk => ?_, h⟩
      rcases List.mem_cons.mp hk with rfl | hk
      · exact q
      · have := h'.1 k hk; omega
    · split
      · exact h
      · refine List.pairwise_cons.mpr ⟨fun k hk => ?_, insU_lt n ms h'.2⟩
        rcases (insU_mem n k ms).mp hk with rfl | hk
        · omega
        · exact h'.1 k hk
theorem sortU_lt : ∀ ns : List Int, (sortU ns).Pairwise (· < ·)
  | [] => .nil
  | n :: ns => insU_lt n _ (sortU_lt ns)
theorem strict_uniq : ∀ {xs ys : List Int}, xs.Pairwise (· < ·) → ys.Pairwise (· < ·) → (∀ k, k ∈ xs ↔ k ∈ ys) → xs = ys
  | [], [], _, _, _ => rfl
  | [], y :: ys, _, _, h => absurd ((h y).mpr (by simp)) (by simp)
  | x :: xs, [], _, _, h => absurd ((h x).mp (by simp)) (by simp)
  | x :: xs, y :: ys, hx, hy, h => by
    have hx' := List.pairwise_cons.mp hx
    have hy' := List.pairwise_cons.mp hy
    have e : x = y := by
      rcases List.mem_cons.mp ((h x).mp (by simp)) with e | e
      · exact e
      · rcases List.mem_cons.mp ((h y).mpr (by simp)) with e2 | e2
        · exact e2.symm
        · have := hx'.1 y e2; have := hy'.1 x e; omega
    subst e
    congr 1
    refine strict_uniq hx'.2 hy'.2 fun k => ?_
    constructor
    · intro hk
      rcases List.mem_cons.mp ((h k).mp (by simp [hk])) with e | e
      · have := hx'.1 k hk; omega
      · exact e
    · intro hk
      rcases List.mem_cons.mp ((h k).mpr (by simp [hk])) with e | e
      · have := hy'.1 k hk; omega
      · exact e
theorem nodup_len : ∀ {xs ys : List Int}, xs.Nodup → (∀ k ∈ xs, k ∈ ys) → xs.length ≤ ys.length
  | [], _, _, _ => Nat.zero_le _
  | x :: xs, ys, hx, h => by
    have hx' := List.nodup_cons.mp hx
    have hm : x ∈ ys := h x (by simp)
    have ih := nodup_len (ys := ys.erase x) hx'.2 fun k hk => by
      have hne : k ≠ x := fun z => hx'.1 (z ▸ hk)
      exact (List.mem_erase_of_ne hne).mpr (h k (by simp [hk]))
    have hl := List.length_erase_of_mem hm
    have hp : 0 < ys.length := List.length_pos_of_mem hm
    simp only [List.length_cons]
    omega
theorem setR_len {w : World} {h : Heap} {a : Addr} {ns : List Int} {c : Nat} (R : SetR w h a (fun j => decide (j ∈ ns)) c) : c ≤ (sortU ns).length := by
  obtain ⟨o, es, ep, t, ho, hex, hd, g, nd, hm, hb, hf, hn, hr⟩ := R
  have := nodup_len (ys := sortU ns) nd fun k hk => (sortU_mem k ns).mpr (of_decide_eq_true ((hm k).mpr hk))
  rw [List.length_map, Array.length_toList] at this
  omega
@[simp] def ssetD : List D → Option D
  | [.list ds] => (intsOf ds).bind fun ns => if ns.length ≤ 1000 ∧ (sortU ns).length < 64 then some (.list (intsD (sortU ns))) else none
  | _ => none
def tSsL (K : PySem.W.Frag) (ta : TE) : TE := fun σ H Q => ta σ H fun x H1 => ∃ (l : Addr) (ns : List Int), x = .ref l ∧ SqL K H1 l (ns.map V.int) ∧ ns.length ≤ 1000 ∧ (sortU ns).length < 64 ∧ ∀ p, H1 p = none → Q (.ref p) (upd H1 p (.lst ((sortU ns).map V.int)))
section
variable {X : Cx} {B : Base} {m : Md} {a : Expr} {ta : TE} {ga : Rho → Option D} {p p2 q pos : Pos}
theorem pe_ssetL (hc : X.calm = true) (hm : X.mg "sorted" = none) (hm2 : X.mg "set" = none) (ha : PE X a ta) (hg : Gl X "sorted" := by rfl) (hg2 : Gl X "set" := by rfl) (na : starEach [a] X.env = (false, eval a X.env) :: starEach [] X.env := by rfl)
    (nl : starEach [Expr.Call (.Name "set" p2) [a] [] q] X.env = (false, eval (.Call (.Name "set" p2) [a] [] q) X.env) :: starEach [] X.env := by rfl) : PE X (.Call (.Name "sorted" p) [.Call (.Name "set" p2) [a] [] q] [] pos) (tSsL X.K ta) := by
  refine ⟨fun pins s σ H Q I h => ?_⟩
  have inner : wpAny (model X.prog X.w) X.A (eval (.Call (.Name "set" p2) [a] [] q) X.env) (fun v s1 => ∃ (S : Addr) (ns : List Int) (c : Nat) (H1 : Hp), v = .ref S ∧ Inv X pins σ H1 s1 ∧ SetR X.w s1.heap S (fun j => decide (j ∈ ns)) c ∧ (sortU ns).length < 64 ∧
      ∀ p, H1 p = none → Q (.ref p) (upd H1 p (.lst ((sortU ns).map V.int)))) X.xe s := by
    refine Call_ (ld_blt I hg2 hm2 boot_set (PyProof.Rows.callWith_type1 (one_arg ha I h (fun v s2 x H2 I2 r z => ?_) na) na))
    obtain ⟨l, ns, rfl, hs, h1, h2, z⟩ := z
    obtain ⟨its, rv, hl, hz⟩ := I2.list hs
    cases r
    refine call_setL ns (I2.ok.hd hc) hl.isList rv.ints (by unfold scanBound; omega) fun h' tk c R le kp => ?_
    exact ⟨_, ns, c, H2, rfl, I2.kept kp, R, h2, z⟩
  refine wpAny_Call_Name_kw (ld_blt I hg hm boot_sorted (PyProof.Rows.callWith_builtin1 (args_cons (thn inner fun v s1 ⟨S, ns, c, H1, ev, I1, R, h64, z⟩ => args_nil ?_) nl) nl))
  subst ev
  have hlen := setR_len R
  refine sorted_set R (I1.ok.hd hc) (by omega) fun s' p out c' ns' k g o hp hgp hi hs hmem hl => ?_
  have e : ns' = sortU ns := strict_uniq hs (sortU_lt ns) fun k => by rw [hmem k, sortU_mem]; exact decide_eq_true_iff
  subst e
  have hz : ((sortU ns).map V.int).length ≤ sizeLine := by rw [List.length_map, sizeLine_eq]; omega
  have hn : H1 p = none := I1.hok.fresh hp
  have J : Inv X pins σ (upd H1 p (.lst ((sortU ns).map V.int))) { s1 with heap := s'.heap, gens := s'.gens, drawn := s'.drawn, toks := s'.toks } :=
    I1.call (ch := []) (Un.laid k hp hn) (I1.hok.laid k hp ⟨hz, out.toList, c', vals_of_ints hi, hgp⟩) (by rw [g]; exact I1.bare) (fun _ z => nomatch z)
  have e2 : s' = { s1 with heap := s'.heap, gens := s'.gens, drawn := s'.drawn, toks := s'.toks } := by
    cases s'; cases s1; cases o; rfl
  rw [e2]
  exact ⟨.ref p, _, J, rfl, z p hn⟩
theorem dp_sset (hc : X.calm = true) (hm : X.mg "sorted" = none) (hm2 : X.mg "set" = none) (ha : DP X B m a ga) (hg : Gl X "sorted" := by rfl) (hg2 : Gl X "set" := by rfl) (na : starEach [a] X.env = (false, eval a X.env) :: starEach [] X.env := by rfl)
    (nl : starEach [Expr.Call (.Name "set" p2) [a] [] q] X.env = (false, eval (.Call (.Name "set" p2) [a] [] q) X.env) :: starEach [] X.env := by rfl) : DP X B m (.Call (.Name "sorted" p) [.Call (.Name "set" p2) [a] [] q] [] pos) (nD (consA ga nilA) ssetD) :=
  ⟨(pe_ssetL hc hm hm2 ha.pe hg hg2 na nl).imp fun σ H Q ⟨O, ρ, d, gd, e, z⟩ => by
    obtain ⟨ds, e1, e2⟩ := bind_some e
    obtain ⟨d1, e3, e4⟩ := bind_some e1
    cases e4
    refine ⟨O, ρ, d1, gd, e3, fun v H1 s1 r1 => ?_⟩
    cases d1 with
    | list ds =>
      obtain ⟨ns, e5, e6⟩ := bind_some e2
      split at e6
      · next hj =>
        cases e6
        simp only [Rep] at r1
        obtain ⟨l, vs, rfl, _, hl, r⟩ := r1
        cases ints_rep r e5
        exact ⟨l, ns, rfl, .of hl, hj.1, hj.2, fun p hp => z _ _ (s1.trans (same_upd hp)) (rep_lst ((gd.same s1).otr m) hp (rep_intsD _))⟩
      · cases e6
    | _ => cases e2⟩
end
end DL

namespace DL
open PySem PySem.Spec
open PyProof.Rows hiding St
open L2
/-! ## list(zip(xs, ys)) of two lists of one length -/
def ZSt (h : Heap) (z TI TO i1 i2 l1 l2 S : Addr) (xs ys : Array Value) (i : Nat) : Prop :=
  ((i = 0 ∧ IsZip h z TI TO .none ∧ ∃ a b, IsPair h TO a b) ∨ ∃ T f o, IsZipHeld h z TI TO T f ∧ h.get? T = some o ∧ T ≠ z ∧ T ≠ i1 ∧ T ≠ i2 ∧ T ≠ S) ∧ IsPair h TI (.ref i1) (.ref i2) ∧ h.IsListIter i1 l1 i ∧ h.IsListIter i2 l2 i ∧ h.IsList l1 xs ∧ h.IsList l2 ys
structure ZLow (z TI TO i1 i2 l1 l2 S : Addr) : Prop where
  D : ZipApart z TI TO i1 i2 l1 l2
  z : z < S
  TI : TI < S
  TO : TO < S
  i1 : i1 < S
  i2 : i2 < S
  l1 : l1 < S
  l2 : l2 < S
section
variable {P : Program} {w : World} {A : Around} {E : Value → Shared → Prop} {s : Shared} {z TI TO i1 i2 l1 l2 S : Addr} {xs ys : Array Value} {i : Nat}
theorem ZSt.up {h h' : Heap} (L : ZLow z TI TO i1 i2 l1 l2 S) (x : ZSt h z TI TO i1 i2 l1 l2 S xs ys i) (k : ∀ b o, b ≠ S → h.get? b = some o → h'.get? b = some o) : ZSt h' z TI TO i1 i2 l1 l2 S xs ys i := by
  obtain ⟨q, hTI, h1, h2, hl1, hl2⟩ := x
  refine ⟨?_, k _ _ (Nat.ne_of_lt L.TI) hTI, h1.at fun o e => k _ o (Nat.ne_of_lt L.i1) e, h2.at fun o e => k _ o (Nat.ne_of_lt L.i2) e, hl1.at fun o e => k _ o (Nat.ne_of_lt L.l1) e, hl2.at fun o e => k _ o (Nat.ne_of_lt L.l2) e⟩
  rcases q with ⟨e, hz, a, b, hTO⟩ | ⟨T, f, o, hz, hT, n1, n2, n3, n4⟩
  · exact .inl ⟨e, k _ _ (Nat.ne_of_lt L.z) hz, a, b, k _ _ (Nat.ne_of_lt L.TO) hTO⟩
  · exact .inr ⟨T, f, o, k _ _ (Nat.ne_of_lt L.z) hz, k _ _ n4 hT, n1, n2, n3, n4⟩
theorem zs_item {x y : Value} {Q : Option Value → Shared → Prop} (L : ZLow z TI TO i1 i2 l1 l2 S) (st : ZSt s.heap z TI TO i1 i2 l1 l2 S xs ys i) (hS : S < s.heap.objs.size) (hx : xs[i]? = some x) (hy : ys[i]? = some y)
    (hQ : ∀ h', ZSt h' z TI TO i1 i2 l1 l2 S xs ys (i + 1) → IsPair h' s.heap.objs.size x y → h'.objs.size = s.heap.objs.size + 1 → (∀ c o, c ≠ z → c ≠ TO → c ≠ i1 → c ≠ i2 → s.heap.get? c = some o → h'.get? c = some o) → Q (some (.ref s.heap.objs.size)) { s with heap := h' }) :
    wpAny (model P w) A (pyNext (.ref z)) Q E s := by
  have D := L.D
  obtain ⟨q, hTI, h1, h2, hl1, hl2⟩ := st
  have big : ∀ {c : Addr}, c < S → s.heap.objs.size ≠ c := fun h => Nat.ne_of_gt (Nat.lt_trans h hS)
  rcases q with ⟨e, hz, a, b, hTO⟩ | ⟨T, f, o, hz, hT, n1, n2, n3, n4⟩
  · refine wpAny_pyNext_zip_item D hz hTI hTO h1 h2 hl1 hl2 hx hy fun h' a1 a2 a3 a4 a5 a6 a7 => hQ h' ⟨.inr ⟨_, false, _, a1, a5, big L.z, big L.i1, big L.i2, Nat.ne_of_gt hS⟩, a7 _ _ D.TIz D.TITO D.TIi1 D.TIi2 hTI, a3, a4, hl1.at fun o e => a7 _ o D.l1z D.l1TO D.l1i1 D.l1i2 e, hl2.at fun o e => a7 _ o D.l2z D.l2TO D.l2i1 D.l2i2 e⟩ a5 a6 a7
  · refine wpAny_pyNext_zip_item_held D hz hT hTI h1 h2 hl1 hl2 hx hy fun h' a1 a3 a4 a5 a6 a7 => hQ h' ⟨.inr ⟨T, true, o, a1, a7 _ _ n1 n2 n3 hT, n1, n2, n3, n4⟩, a7 _ _ D.TIz D.TIi1 D.TIi2 hTI, a3, a4, hl1.at fun o e => a7 _ o D.l1z D.l1i1 D.l1i2 e, hl2.at fun o e => a7 _ o D.l2z D.l2i1 D.l2i2 e⟩ a5 a6 fun c o c1 _ c3 c4 e => a7 c o c1 c3 c4 e
theorem zs_end {Q : Option Value → Shared → Prop} (hh : A.handled = none) (L : ZLow z TI TO i1 i2 l1 l2 S) (st : ZSt s.heap z TI TO i1 i2 l1 l2 S xs ys i) (hx : xs[i]? = none)
    (hQ : ∀ h', (∀ c o, c ≠ z → c ≠ TO → c ≠ i1 → c ≠ i2 → s.heap.get? c = some o → h'.get? c = some o) → Q none { s with heap := h' }) : wpAny (model P w) A (pyNext (.ref z)) Q E s := by
  obtain ⟨q, hTI, h1, h2, hl1, hl2⟩ := st
  rcases q with ⟨e, hz, a, b, hTO⟩ | ⟨T, f, o, hz, hT, n1, n2, n3, n4⟩
  · exact wpAny_pyNext_zip_end hh L.D hz hTI hTO h1 h2 hl1 hl2 (.inl hx) hQ
  · exact wpAny_pyNext_zip_end_held hh L.D hz hT hTI h1 h2 hl1 hl2 (.inl hx) fun h' k => hQ h' fun c o c1 _ c3 c4 e => k c o c1 c3 c4 e
end
/-- the pairs at as -/
abbrev ZG (P : Program) (w : World) (vs : List (Key × Value)) (lo : Addr) (h : Heap) (as : List Addr) : Prop := PySem.W.KdxG (mixKind P w) vs lo h as
def ZVs (xs ys : Array Value) (vs : List (Key × Value)) : Prop := xs.size = vs.length ∧ ys.size = vs.length ∧ ∀ (j : Nat) x y, xs[j]? = some x → ys[j]? = some y → ∃ k, vs[j]? = some (k, y) ∧ keyIs k x = true
section
variable {P : Program} {w : World} {A : Around} {E : Value → Shared → Prop} {s : Shared} {z TI TO i1 i2 l1 l2 S : Addr} {xs ys : Array Value} {vs : List (Key × Value)} {R : Result → Shared → Prop}
theorem zs_loop (hh : A.handled = none) (L : ZLow z TI TO i1 i2 l1 l2 S) (V : ZVs xs ys vs) (hn : vs.length ≤ 1000) (res : Value) {h1 : Heap}
    (hR : ∀ h' tk acc c as, (∀ b o, b ≠ S → b ≠ z → b ≠ TO → b ≠ i1 → b ≠ i2 → h1.get? b = some o → h'.get? b = some o) → h'.get? S = some { cls := .type "list", dict := none, data := .seq acc c, slots := #[] } → as.length = vs.length → ZG P w vs S h' as → acc.toList = as.map Value.ref → R (.ok (.ret res)) { s with heap := h', toks := tk }) :
    ∀ (k i : Nat) (h : Heap) (tk c : Nat) (acc : Array Value) (as : List Addr), vs.length - i = k → i ≤ vs.length → ZSt h z TI TO i1 i2 l1 l2 S xs ys i → (∀ b o, b ≠ S → b ≠ z → b ≠ TO → b ≠ i1 → b ≠ i2 → h1.get? b = some o → h.get? b = some o) →
      h.get? S = some { cls := .type "list", dict := none, data := .seq acc c, slots := #[] } → acc.toList = as.map Value.ref → as.length = i → ZG P w vs S h as → codeAny (model P w) A (.builtin "list.extend.loop" ⟨[.ref S, .ref z, res], []⟩) R { s with heap := h, toks := tk }
  | 0, i, h, tk, c, acc, as, hk, hi, hst, kp, hS, hacc, hal, hG => by
    have hx : xs[i]? = none := Array.getElem?_eq_none (by rw [V.1]; omega)
    refine codeAny_builtin F.entry_extend_loop ?_
    rw [Around.under_plainId F.plain_extend_loop _]
    refine wpAny_bind (m := pyNext (.ref z)) (zs_end (s := { s with heap := h, toks := tk }) (A := A.in1) hh L hst hx fun h' e => ?_)
    have low : ∀ {c : Addr}, S ≤ c → c ≠ z ∧ c ≠ TO ∧ c ≠ i1 ∧ c ≠ i2 := fun q => ⟨Nat.ne_of_gt (Nat.lt_of_lt_of_le L.z q), Nat.ne_of_gt (Nat.lt_of_lt_of_le L.TO q), Nat.ne_of_gt (Nat.lt_of_lt_of_le L.i1 q), Nat.ne_of_gt (Nat.lt_of_lt_of_le L.i2 q)⟩
    obtain ⟨m1, m2, m3, m4⟩ := low (Nat.le_refl S)
    refine wpAny_pure (hR h' tk acc c as (fun b o b0 b1 b2 b3 b4 q => e b o b1 b2 b3 b4 (kp b o b0 b1 b2 b3 b4 q)) (e S _ m1 m2 m3 m4 hS) (by omega) ⟨hG.rise, hG.above, fun j a hj => ?_⟩ hacc)
    obtain ⟨key, kk, x, e1, e2, e3⟩ := hG.pairs j a hj
    obtain ⟨m1, m2, m3, m4⟩ := low (Nat.le_of_lt (hG.above a (List.mem_of_getElem? hj)))
    exact ⟨key, kk, x, e1, e2, e a _ m1 m2 m3 m4 e3⟩
  | k + 1, i, h, tk, c, acc, as, hk, hi, hst, kp, hS, hacc, hal, hG => by
    have hlt : i < vs.length := by omega
    have hxi : i < xs.size := by rw [V.1]; exact hlt
    have hyi : i < ys.size := by rw [V.2.1]; exact hlt
    obtain ⟨kk, ek, ekk⟩ := V.2.2 i _ _ (Array.getElem?_eq_getElem hxi) (Array.getElem?_eq_getElem hyi)
    have hsz : acc.size = i := by rw [← Array.length_toList, hacc, List.length_map, hal]
    have hSl : S < h.objs.size := Heap.lt_size hS
    have low : ∀ {c : Addr}, S ≤ c → c ≠ z ∧ c ≠ TO ∧ c ≠ i1 ∧ c ≠ i2 := fun q => ⟨Nat.ne_of_gt (Nat.lt_of_lt_of_le L.z q), Nat.ne_of_gt (Nat.lt_of_lt_of_le L.TO q), Nat.ne_of_gt (Nat.lt_of_lt_of_le L.i1 q), Nat.ne_of_gt (Nat.lt_of_lt_of_le L.i2 q)⟩
    refine codeAny_builtin F.entry_extend_loop ?_
    rw [Around.under_plainId F.plain_extend_loop _]
    refine wpAny_bind (m := pyNext (.ref z)) (zs_item (s := { s with heap := h, toks := tk }) L hst hSl (Array.getElem?_eq_getElem hxi) (Array.getElem?_eq_getElem hyi) fun h' st' ht hz e => ?_)
    dsimp only at ht hz e ⊢
    obtain ⟨m1, m2, m3, m4⟩ := low (Nat.le_refl S)
    have hS' := e S _ m1 m2 m3 m4 hS
    have up : ∀ b o, b ≠ S → h'.get? b = some o → (h'.update S (Obj.mapSeq (·.push (Value.ref h.objs.size)))).get? b = some o := fun b o hb q => (Heap.get?_update_other _ _ (Ne.symm hb)).trans q
    refine wpAny_bind (m := updateSeq S (·.push (Value.ref h.objs.size))) (wpAny_updateSeq hS' rfl (wpAny_pure ⟨plainId_quiet F.plain_extend_loop _, zs_loop hh L V hn res hR k (i + 1) _ tk _ (acc.push (Value.ref h.objs.size)) (as ++ [h.objs.size]) (by omega) hlt (st'.up L up)
      (fun b o b0 b1 b2 b3 b4 q => up b o b0 (e b o b1 b2 b3 b4 (kp b o b0 b1 b2 b3 b4 q))) (Heap.get?_update_self _ hS' rfl) (by rw [Array.toList_push, hacc, List.map_append]; rfl) (by rw [List.length_append, hal]; rfl) ⟨?_, ?_, ?_⟩⟩) (by rw [hsz, sizeLine_eq]; omega) (by show (acc.push _).size ≤ sizeLine + 1; rw [Array.size_push, hsz, sizeLine_eq]; omega))
    · exact List.pairwise_append.mpr ⟨hG.rise, List.pairwise_singleton _ _, fun a ha b hb => (List.mem_singleton.mp hb) ▸ hG.there ha⟩
    · intro a ha
      rcases List.mem_append.mp ha with ha | ha
      · exact hG.above a ha
      · exact (List.mem_singleton.mp ha) ▸ hSl
    · intro j b hj
      by_cases c1 : j < as.length
      · rw [List.getElem?_append_left c1] at hj
        obtain ⟨key', k', x', e1, e2, e3⟩ := hG.pairs j b hj
        have hb := hG.above b (List.mem_of_getElem? hj)
        obtain ⟨m1, m2, m3, m4⟩ := low (Nat.le_of_lt hb)
        exact ⟨key', k', x', e1, e2, up b _ (Nat.ne_of_gt hb) (e b _ m1 m2 m3 m4 e3)⟩
      · have hj2 := (List.getElem?_eq_some_iff.mp hj).1
        rw [List.length_append, List.length_singleton] at hj2
        have ej : j = as.length := by omega
        subst ej
        obtain rfl : h.objs.size = b := by simpa using hj
        exact ⟨_, kk, _, by rw [hal]; exact ek, ekk, up _ _ (Nat.ne_of_gt hSl) ht⟩
end
end DL

namespace DL
open PySem PySem.Spec
open PyProof.Rows hiding St
open L2
theorem zip_nolen : typeLookup (.type "zip") "__len__" = pure none := by rw [typeLookup_type, builtinLookup_eq_fast]; kernel_rfl
theorem zip_nohint : typeLookup (.type "zip") "__length_hint__" = pure none := by rw [typeLookup_type, builtinLookup_eq_fast]; kernel_rfl
section
variable {P : Program} {w : World} {A : Around} {E : Value → Shared → Prop} {s : Shared} {z TI TO i1 i2 l1 l2 S : Addr} {xs ys : Array Value} {vs : List (Key × Value)} {R : Result → Shared → Prop}
theorem ZSt.isZip {h : Heap} {i : Nat} (x : ZSt h z TI TO i1 i2 l1 l2 S xs ys i) : ∃ fs, h.get? z = some { cls := .type "zip", dict := none, data := .fields fs, slots := #[] } := by
  rcases x.1 with ⟨_, hz, _⟩ | ⟨T, f, o, hz, _⟩
  · exact ⟨_, hz⟩
  · exact ⟨_, hz⟩
theorem ZSt.iter {i : Nat} {Q : Value → Shared → Prop} (x : ZSt s.heap z TI TO i1 i2 l1 l2 S xs ys i) (h : Q (.ref z) s) : wpAny (model P w) A (pyIter (.ref z)) Q E s := by
  obtain ⟨fs, hz⟩ := x.isZip
  have ty : s.TypeIs (.ref z) "zip" := ⟨_, hz, rfl⟩
  refine wpAny_pyIter_slot ty F.slot_zip_iter (wpAny_call_entry F.slot_zip_iter ty F.entry_zip_iter ?_ (F.args_zip_iter_1 _))
  change wpAny _ _ (ret (Value.ref z)) _ _ s
  exact wpAny_pure ⟨_, rfl, "zip", _, ty, F.slot_zip_next.lookup, h⟩
theorem zs_ext (hh : A.handled = none) (L : ZLow z TI TO i1 i2 l1 l2 S) (V : ZVs xs ys vs) (hn : vs.length ≤ 1000) (res : Value) (st : ZSt s.heap z TI TO i1 i2 l1 l2 S xs ys 0) (c0 : Nat) (hS : s.heap.get? S = some { cls := .type "list", data := .seq #[] c0 })
    (hR : ∀ h' tk acc c as, (∀ b o, b ≠ S → b ≠ z → b ≠ TO → b ≠ i1 → b ≠ i2 → s.heap.get? b = some o → h'.get? b = some o) → h'.get? S = some { cls := .type "list", dict := none, data := .seq acc c, slots := #[] } → as.length = vs.length → ZG P w vs S h' as → acc.toList = as.map Value.ref → R (.ok (.ret res)) { s with heap := h', toks := tk }) :
    wpAny (model P w) A.in1 (Builtin.List.listExtendWith (.ref S) (.ref z) res) (fun fin s' => match fin with | .done f => R (.ok f) s' | .again c' => c'.quiet = true ∧ codeAny (model P w) A c' R s') (fun e s' => R (.error e) s') s := by
  obtain ⟨fs, hz⟩ := st.isZip
  have ty : s.TypeIs (.ref z) "zip" := ⟨_, hz, rfl⟩
  have q1 : Builtin.List.listSameRef (.ref S) (.ref z) = false := by simp [Builtin.List.listSameRef, Nat.ne_of_gt L.z]
  have q2 : (Value.type "zip" == Value.type "list") = false := by decide
  have q3 : (Value.type "zip" == Value.type "tuple") = false := by decide
  unfold Builtin.List.listExtendWith
  refine wpAny_bind (wpAny_typeOf ty ?_)
  simp only [q1, q2, q3, Bool.or_false, Bool.false_eq_true, if_false]
  refine wpAny_bind (st.iter (wpAny_bind (wpAny_holding ?_)))
  unfold Builtin.List.listLengthHint
  refine wpAny_bind (wpAny_specialOf ty zip_nolen (wpAny_bind (m := specialOf (Value.ref z) (Str.ofString "__length_hint__")) (wpAny_specialOf ty zip_nohint (wpAny_pure (wpAny_bind (m := rule "list.extend.makes-room") (wpAny_rule (wpAny_bind (m := Builtin.List.listTouch (.ref S)) ?_)))))))
  refine wpAny_bind (m := updateSeq S (·.push Value.none)) (wpAny_updateSeq hS rfl ?_)
  have g2 := Heap.get?_update_self (Obj.mapSeq (·.push Value.none)) hS rfl
  refine wpAny_updateSeq (hz := by seq_fits) g2 rfl ?_
  have g3 := Heap.get?_update_self (Obj.mapSeq (·.pop)) g2 rfl
  have ot : ∀ b o, b ≠ S → s.heap.get? b = some o → ((s.heap.update S (Obj.mapSeq (·.push Value.none))).update S (Obj.mapSeq (·.pop))).get? b = some o := fun b o hb e => (Heap.get?_update_other _ _ (Ne.symm hb)).trans ((Heap.get?_update_other _ _ (Ne.symm hb)).trans e)
  exact wpAny_pure ⟨plainId_quiet F.plain_extend_loop _, zs_loop (h1 := s.heap) hh L V hn res hR vs.length 0 _ s.toks _ #[] [] (Nat.sub_zero _) (Nat.zero_le _) (st.up L ot) (fun b o b0 _ _ _ _ e => ot b o b0 e) g3 rfl rfl ⟨.nil, fun _ ha => (nomatch ha), fun j a hj => by simp at hj⟩⟩
theorem zs_call {Q : Value → Shared → Prop} (hh : A.handled = none) (L : ZLow z TI TO i1 i2 l1 l2 s.heap.objs.size) (V : ZVs xs ys vs) (hn : vs.length ≤ 1000) (st : ZSt s.heap z TI TO i1 i2 l1 l2 s.heap.objs.size xs ys 0)
    (hQ : ∀ h' tk acc c as, (∀ b o, b ≠ z → b ≠ TO → b ≠ i1 → b ≠ i2 → s.heap.get? b = some o → h'.get? b = some o) → h'.get? s.heap.objs.size = some { cls := .type "list", dict := none, data := .seq acc c, slots := #[] } → as.length = vs.length → ZG P w vs s.heap.objs.size h' as → acc.toList = as.map Value.ref →
      Q (.ref s.heap.objs.size) { s with heap := h', toks := tk }) : wpAny (model P w) A (call (.type "list") [.ref z]) Q E s := by
  refine callType_codes (Q₁ := fun x y => x = .ref s.heap.objs.size ∧ y = { s with heap := s.heap.push { cls := .type "list", data := .seq #[] } }) F.called_list (F.typeCall_list_1 _) F.entry_list_init (code_list_new _ ⟨rfl, rfl⟩) fun x y q => ?_
  obtain ⟨rfl, rfl⟩ := q
  have gS : (s.heap.push { cls := .type "list", data := .seq #[] }).get? s.heap.objs.size = some { cls := .type "list", data := .seq #[] } := Heap.get?_push_size _ rfl
  refine ⟨⟨_, gS, rfl⟩, F.args_list_init_2 _ _, ?_⟩
  refine wpAny_bind (m := Builtin.List.listItems (.ref s.heap.objs.size)) ?_
  unfold Builtin.List.listItems
  refine wpAny_bind (wpAny_seqItems gS rfl (wpAny_pure (wpAny_bind (m := updateSeq s.heap.objs.size (fun _ => #[])) (wpAny_updateSeq gS rfl (wpAny_bind (m := letGo (#[] : Array Value).toList.reverse) (wpAny_letGo ?_))))))
  have g2 := Heap.get?_update_self (Obj.mapSeq (fun _ => (#[] : Array Value))) gS rfl
  have ot : ∀ b o, b ≠ s.heap.objs.size → s.heap.get? b = some o → ((s.heap.push { cls := .type "list", data := .seq #[] }).update s.heap.objs.size (Obj.mapSeq (fun _ => (#[] : Array Value)))).get? b = some o := fun b o hb e => (Heap.get?_update_other _ _ (Ne.symm hb)).trans (Heap.get?_push_of_some _ e)
  refine zs_ext (A := A.in1) hh L V hn .none (st.up L ot) _ g2 fun h' tk acc c as k e l g hacc => ?_
  exact ⟨rfl, hQ h' tk acc c as (fun b o b1 b2 b3 b4 q => k b o (Nat.ne_of_lt (Heap.lt_size q)) b1 b2 b3 b4 (ot b o (Nat.ne_of_lt (Heap.lt_size q)) q)) e l g hacc⟩
end
end DL

namespace DL
open PySem PySem.Spec
open PyProof.Rows hiding St
open L2
section
variable {X : Cx} {pins : List (Addr × Obj)} {σ : L2.St} {H : Hp} {s : Shared} {h' : Heap} {tk : Nat} {kvs : List (Key × V)} {vs : List (Key × Value)} {acc : Array Value} {c : Nat} {as : List Addr} {S : Addr}
theorem pairs_laid (I : Inv X pins σ H s) (hz : kvs.length ≤ 1000) (kv : KV kvs vs) (h0 : s.heap.objs.size ≤ S) (kp : ∀ b o, s.heap.get? b = some o → h'.get? b = some o) (hS : h'.get? S = some { cls := .type "list", dict := none, data := .seq acc c, slots := #[] }) (hl : as.length = vs.length) (hG : ZG X.prog X.w vs S h' as) (hacc : acc.toList = as.map Value.ref) :
    ∃ H' : Hp, (∀ b o, H b = some o → H' b = some o) ∧ H S = none ∧ (∀ t ∈ as, H t = none) ∧ S ∉ as ∧ H' S = some (.lst (as.map V.ref)) ∧ Paired (fun (t : Addr) (q : Key × V) => H' t = some (.tup [kV q.1, q.2])) as kvs ∧ Inv X pins σ H' { s with heap := h', toks := tk } := by
  have lk := Paired.length kv
  have no : S ∉ as := fun q => Nat.lt_irrefl _ (hG.above _ q)
  have nd : as.Nodup := hG.rise.imp fun {a b} q => Nat.ne_of_lt q
  have nw : ∀ t ∈ as, H t = none := fun t q => I.hok.fresh (Nat.le_of_lt (Nat.lt_of_le_of_lt h0 (hG.above t q)))
  have nS : H S = none := I.hok.fresh h0
  generalize hH : LiI.putT (upd H S (.lst (as.map V.ref))) as kvs = H2
  have at_ : Paired (fun (t : Addr) (q : Key × V) => H2 t = some (.tup [kV q.1, q.2])) as kvs := by rw [← hH]; exact LiI.putT_at as kvs _ (by omega) nd
  have of_ : ∀ b, b ∉ as → b ≠ S → H2 b = H b := fun b q1 q2 => by rw [← hH, LiI.putT_off as kvs _ q1, upd_ne q2]
  have lo : ∀ b o, s.heap.get? b = some o → b ∉ as ∧ b ≠ S := fun b o e => ⟨fun q => absurd (Nat.lt_trans (Nat.lt_of_lt_of_le (Heap.lt_size e) h0) (hG.above b q)) (Nat.lt_irrefl _), Nat.ne_of_lt (Nat.lt_of_lt_of_le (Heap.lt_size e) h0)⟩
  have ke : ∀ b u, H b = some u → H2 b = some u := fun b u e => (of_ b (fun q => by rw [nw b q] at e; cases e) (fun q => by rw [q, nS] at e; cases e)).trans e
  have eS : H2 S = some (.lst (as.map V.ref)) := by rw [← hH, LiI.putT_off as kvs _ no, upd_same]
  refine ⟨H2, ke, nS, nw, no, eS, at_, I.call' (ch := []) rfl ⟨fun b o q _ _ _ => kp b o q, fun b o q _ _ _ => ⟨o.slots, kp b o q⟩, fun b o q n _ => (of_ b (lo b o q).1 (lo b o q).2).trans n, fun b o q _ => ⟨o, kp b o q⟩, fun b xs q => ke b _ q, fun b o u q => ke b _ q, fun b ps q => ⟨#[], by rw [ke b _ q]; simp⟩⟩ (fun b u q => ?_) I.bare fun b q => by simp at q⟩
  by_cases m : b ∈ as
  · obtain ⟨j, pk, e1, e2, e3⟩ := LiI.paired_ix at_ m
    obtain rfl := Option.some.inj (e3.symm.trans q)
    obtain ⟨key, k, x, f1, f2, f3⟩ := hG.pairs j b e1
    obtain ⟨qv, g1, g2, g3⟩ := LiI.paired_get kv e2
    obtain rfl := Option.some.inj (f1.symm.trans g1)
    exact ⟨by show 2 ≤ sizeLine; decide, [key, x], .cons (by rw [g2]; exact relV_key (show keyIs k key = true from f2)) (.cons g3 .nil), ⟨_, f3, rfl, _, rfl⟩⟩
  · by_cases m2 : b = S
    · subst m2
      obtain rfl := Option.some.inj (eS.symm.trans q)
      exact ⟨by rw [List.length_map, sizeLine_eq]; omega, acc.toList, c, by rw [hacc]; exact LiI.vals_refs as, by rw [Array.toArray_toList]; exact hS⟩
    · rw [of_ b m m2] at q
      exact (I.hok b u q).stay (fun d v _ y => kp d v y) (fun d y => ke d _ y) fun d xs y => ke d _ y
end
def tLz (K : PySem.W.Frag) (ta : TA) : TE := fun σ H Q => ta σ H fun vs H1 => ∃ (l1 l2 : Addr) (ns : List Int) (ws : List V), vs = [.ref l1, .ref l2] ∧ SqL K H1 l1 (ns.map V.int) ∧ SqL K H1 l2 ws ∧ ns.length = ws.length ∧ ns.length ≤ 1000 ∧
  ∀ (H' : Hp) (S : Addr) (as : List Addr), (∀ b o, H1 b = some o → H' b = some o) → H1 S = none → H' S = some (.lst (as.map V.ref)) → Paired (fun (t : Addr) (q : Key × V) => H' t = some (.tup [kV q.1, q.2])) as ((ns.map Sum.inl).zip ws) → Q (.ref S) H'
theorem kv_zip : ∀ {ns : List Int} {ws : List V} {us : List Value}, Vals ws us → KV ((ns.map Sum.inl).zip ws) ((ns.map (Sum.inl : Int → Key)).zip us)
  | [], _, _, _ => .nil
  | _ :: _, [], _, .nil => .nil
  | n :: ns, w :: ws, u :: us, .cons r rs => .cons ⟨rfl, r⟩ (kv_zip rs)
section
variable {X : Cx} {B : Base} {m : Md} {a b : Expr} {ta : TA} {ga gb : Rho → Option D} {p p2 q pos : Pos}
theorem pe_lzip (hc : X.calm = true) (hm : X.mg "list" = none) (hm2 : X.mg "zip" = none) (ha : PA X [a, b] ta) (hg : Gl X "list" := by rfl) (hg2 : Gl X "zip" := by rfl) (na : starEach [a, b] X.env = (false, eval a X.env) :: starEach [b] X.env := by rfl) (hp : (backTo q (starEach [b] X.env)).any (·.1) = false := by rfl)
    (nl : starEach [Expr.Call (.Name "zip" p2) [a, b] [] q] X.env = (false, eval (.Call (.Name "zip" p2) [a, b] [] q) X.env) :: starEach [] X.env := by rfl) : PE X (.Call (.Name "list" p) [.Call (.Name "zip" p2) [a, b] [] q] [] pos) (tLz X.K ta) := by
  refine ⟨fun pins s σ H Q I h => ?_⟩
  have inner : wpAny (model X.prog X.w) X.A (eval (.Call (.Name "zip" p2) [a, b] [] q) X.env) (fun v s1 => ∃ (z TI TO i1 i2 l1 l2 : Addr) (xs ys : Array Value) (vs : List (Key × Value)) (kvs : List (Key × V)) (H1 : Hp) (s0 : Shared), v = .ref z ∧ Inv X pins σ H1 s0 ∧ s1 = { s0 with heap := s1.heap } ∧ (∀ b o, s0.heap.get? b = some o → s1.heap.get? b = some o) ∧
      (∀ b o, s0.heap.get? b = some o → b ≠ z ∧ b ≠ TO ∧ b ≠ i1 ∧ b ≠ i2) ∧ ZLow z TI TO i1 i2 l1 l2 s1.heap.objs.size ∧ s0.heap.objs.size ≤ s1.heap.objs.size ∧ ZSt s1.heap z TI TO i1 i2 l1 l2 s1.heap.objs.size xs ys 0 ∧ ZVs xs ys vs ∧ vs.length ≤ 1000 ∧ KV kvs vs ∧
      ∀ (H' : Hp) (S : Addr) (as : List Addr), (∀ b o, H1 b = some o → H' b = some o) → H1 S = none → H' S = some (.lst (as.map V.ref)) → Paired (fun (t : Addr) (q : Key × V) => H' t = some (.tup [kV q.1, q.2])) as kvs → Q (.ref S) H') X.xe s := by
    refine Call_ (ld_blt I hg2 hm2 boot_zip (PyProof.Rows.callWith_type1 (thn (ha.run q pins s σ H _ I h) fun us s2 ⟨vs, H2, I2, r, x⟩ => ?_) na hp))
    obtain ⟨l1, l2, ns, ws, rfl, hs1, hs2, hl, hn, x⟩ := x
    cases r with
    | cons r rr =>
    cases rr with
    | cons r' rr =>
    cases rr
    cases r
    cases r'
    obtain ⟨t1, v1, c1, z1⟩ := I2.list hs1
    obtain ⟨t2, v2, c2, z2⟩ := I2.list hs2
    have len1 : t1.length = ns.length := by have := v1.length; rw [List.length_map] at this; exact this.symm
    have len2 : t2.length = ns.length := by have := v2.length; omega
    have b1 : l1 < s2.heap.objs.size := by obtain ⟨o, ho, _⟩ := c1.isList; exact Heap.lt_size ho
    have b2 : l2 < s2.heap.objs.size := by obtain ⟨o, ho, _⟩ := c2.isList; exact Heap.lt_size ho
    refine call_zip_2 c1.isList c2.isList fun h' a1 a2 a3 a4 a5 a6 a7 => ?_
    have up : ∀ k, s2.heap.objs.size + k ≤ s2.heap.objs.size + 4 → s2.heap.objs.size + k < h'.objs.size := fun k hk => by rw [a6]; exact Nat.lt_succ_of_le hk
    refine ⟨_, _, _, _, _, l1, l2, t1.toArray, t2.toArray, (ns.map Sum.inl).zip t2, (ns.map Sum.inl).zip ws, H2, s2, rfl, I2, rfl, a7, fun b o e => ?_, ⟨zipApart_new b1 b2, up 4 (Nat.le_refl _), up 2 (Nat.add_le_add_left (by decide) _), up 3 (Nat.add_le_add_left (by decide) _), up 0 (Nat.add_le_add_left (by decide) _), up 1 (Nat.add_le_add_left (by decide) _), Nat.lt_trans b1 (up 0 (Nat.add_le_add_left (by decide) _)), Nat.lt_trans b2 (up 0 (Nat.add_le_add_left (by decide) _))⟩, ?_,
      ⟨.inl ⟨rfl, a1, _, _, a3⟩, a2, a4, a5, c1.isList.at fun o e => a7 _ o e, c2.isList.at fun o e => a7 _ o e⟩, ⟨?_, ?_, fun j x y hx hy => ?_⟩, by rw [List.length_zip, List.length_map, len2]; omega, kv_zip v2, x⟩
    · have hb := Heap.lt_size e
      have g : ∀ k, b ≠ s2.heap.objs.size + k := fun k => Nat.ne_of_lt (Nat.lt_of_lt_of_le hb (Nat.le_add_right _ _))
      exact ⟨g 4, g 3, g 0, g 1⟩
    · show s2.heap.objs.size ≤ h'.objs.size
      rw [a6]; exact Nat.le_add_right _ _
    · rw [List.size_toArray, List.length_zip, List.length_map, len1, len2]; omega
    · rw [List.size_toArray, List.length_zip, List.length_map, len2]; omega
    · rw [List.getElem?_toArray] at hx hy
      have hj : j < ns.length := by have := (List.getElem?_eq_some_iff.mp hx).1; omega
      obtain ⟨t, e⟩ := IntsAre.int_at v1.ints j x hx
      refine ⟨.inl ns[j], ?_, ?_⟩
      · rw [List.getElem?_zip_eq_some]
        exact ⟨by simp [hj], hy⟩
      · rw [e, List.getD_eq_getElem?_getD, List.getElem?_eq_getElem hj]
        simp [keyIs, Value.isInt]
  refine wpAny_Call_Name_kw (ld_blt I hg hm boot_list (PyProof.Rows.callWith_type1 (args_cons (thn inner fun v s1 y => args_nil ?_) nl) nl))
  obtain ⟨z, TI, TO, i1, i2, l1, l2, xs, ys, vs, kvs, H1, s0, rfl, I0, es, k01, ne, L, hz, st, V, hn, kv, x⟩ := y
  have hd : X.A.handled = none := I0.ok.hd hc
  refine zs_call hd L V hn st fun h' tk acc c as kp e l g hacc => ?_
  obtain ⟨H', k1, k2, k3, k4, k5, k6, J⟩ := pairs_laid (tk := tk) I0 (by rw [Paired.length kv]; exact hn) kv hz (fun b o e => by
    obtain ⟨n1, n2, n3, n4⟩ := ne b o e
    exact kp b o n1 n2 n3 n4 (k01 b o e)) e l g hacc
  have e2 : { s1 with heap := h', toks := tk } = { s0 with heap := h', toks := tk } := by rw [es]
  rw [e2]
  exact ⟨.ref _, H', J, rfl, x H' _ as k1 k2 k5 k6⟩
end
@[simp] def lzipD : List D → Option D
  | [.list ds, .list es] => (intsOf ds).bind fun ns => if ns.length = es.length ∧ ns.length ≤ 1000 then some (.list (zipL (intsD ns) es)) else none
  | _ => none
theorem rep_zip {O : Addr → Prop} {H : Hp} : ∀ {ns : List Int} {es : List D} {ws : List V} {as : List Addr}, RepL O H es ws → Paired (fun (t : Addr) (q : Key × V) => H t = some (.tup [kV q.1, q.2])) as ((ns.map Sum.inl).zip ws) → RepL O H (zipL (intsD ns) es) (as.map V.ref)
  | [], es, ws, as, _, h => by
    cases h
    simpa [zipL] using RepL.nil
  | n :: ns, [], ws, as, r, h => by
    simp only [RepL] at r
    subst r
    cases h
    simpa [zipL] using RepL.nil
  | n :: ns, e :: es, ws, as, r, h => by
    simp only [RepL] at r
    obtain ⟨v, ws, rfl, r1, r2⟩ := r
    cases h with
    | cons h1 h2 =>
      rw [intsD_cons, zipL, List.map_cons]
      refine .cons ?_ (rep_zip r2 h2)
      simp only [Rep]
      exact ⟨_, _, rfl, h1, .cons (rep_int.mpr rfl) (.one r1)⟩
section
variable {X : Cx} {B : Base} {m : Md} {a b : Expr} {ga gb : Rho → Option D} {p p2 q pos : Pos}
theorem dp_lzip (hc : X.calm = true) (hm : X.mg "list" = none) (hm2 : X.mg "zip" = none) (ha : DPA X B m [a, b] gs) (hg : Gl X "list" := by rfl) (hg2 : Gl X "zip" := by rfl) (na : starEach [a, b] X.env = (false, eval a X.env) :: starEach [b] X.env := by rfl) (hp : (backTo q (starEach [b] X.env)).any (·.1) = false := by rfl)
    (nl : starEach [Expr.Call (.Name "zip" p2) [a, b] [] q] X.env = (false, eval (.Call (.Name "zip" p2) [a, b] [] q) X.env) :: starEach [] X.env := by rfl) : DP X B m (.Call (.Name "list" p) [.Call (.Name "zip" p2) [a, b] [] q] [] pos) (nD gs lzipD) :=
  ⟨(pe_lzip hc hm hm2 ha.pa hg hg2 na hp nl).imp fun σ H Q ⟨O, ρ, d, gd, e, z⟩ => by
    obtain ⟨ds, e1, e2⟩ := bind_some e
    refine ⟨O, ρ, ds, gd, e1, fun vs H1 s1 r1 => ?_⟩
    unfold lzipD at e2
    split at e2
    · next d1 d2 =>
      obtain ⟨ns, e5, e6⟩ := bind_some e2
      split at e6
      · next hj =>
        cases e6
        obtain ⟨v, w, rfl, q1, q2⟩ := repL_two r1
        simp only [Rep] at q1 q2
        obtain ⟨l1, u1, rfl, _, g1, q1⟩ := q1
        obtain ⟨l2, u2, rfl, no2, g2, q2⟩ := q2
        cases ints_rep q1 e5
        refine ⟨l1, l2, ns, u2, rfl, .of g1, .of g2, by rw [← q2.length]; exact hj.1, hj.2, fun H' S as k1 k2 k3 k4 => z _ H' (s1.trans k1) ?_⟩
        simp only [Rep]
        exact ⟨S, _, rfl, fun o => (gd.same s1).otr m S o k2, k3, rep_zip (q2.same k1) k4⟩
      · cases e6
    · cases e2⟩
end
end DL

namespace DL
open PySem PySem.Spec
open PyProof.Rows hiding St
open L2
/-! ## zip of a tuple and a list -/
def ItzM (K : PySem.W.Frag) (a b : Addr) : It :=
  ⟨fun i H => ∃ (xs ys : List V) (x y : V), SqT K H a xs ∧ SqL K H b ys ∧ xs[i]? = some x ∧ ys[i]? = some y, fun i H v H' => ∃ T x y, v = .ref T ∧ H T = none ∧ H' = upd H T (.tup [x, y]) ∧ (∀ xs, SqT K H a xs → xs[i]? = some x) ∧ ∀ ys, SqL K H b ys → ys[i]? = some y,
    fun i H => ∃ xs ys : List V, SqT K H a xs ∧ SqL K H b ys ∧ i = min xs.length ys.length⟩
abbrev ZM (N a b : Addr) (i : Nat) (h : Heap) : Prop := IsZip h (N + 4) (N + 2) (N + 3) .none ∧ IsTupOf2 h (N + 2) (.ref N) (.ref (N + 1)) ∧ (∃ x y, IsTupOf2 h (N + 3) x y) ∧ h.IsTupleIter N a i ∧ h.IsListIter (N + 1) b i
theorem zm_walk {P : Program} {w : World} {A : Around} {N a b : Addr} (hh : A.in1.handled = none) (ha : a < N) (hb : b < N) (xs ys : Array Value) :
    WalksT P w A (N + 4) ((N + 4) :: (N + 2) :: (N + 3) :: ([N, a] ++ [N + 1, b])) [N + 4, N + 3, N, N + 1] (min xs.size ys.size) (fun i vals => ∃ x1 x2, xs[i]? = some x1 ∧ ys[i]? = some x2 ∧ vals = #[x1, x2])
      (fun i h => IsZip h (N + 4) (N + 2) (N + 3) .none ∧ IsTupOf2 h (N + 2) (.ref N) (.ref (N + 1)) ∧ (∃ x y, IsTupOf2 h (N + 3) x y) ∧ (h.IsTupleIter N a i ∧ h.IsTuple a xs) ∧ (h.IsListIter (N + 1) b i ∧ h.IsList b ys))
      (fun i T h => IsZip h (N + 4) (N + 2) (N + 3) (rawInt T) ∧ IsTupOf2 h (N + 2) (.ref N) (.ref (N + 1)) ∧ (∃ x y, IsTupOf2 h (N + 3) x y) ∧ (h.IsTupleIter N a (i + 1) ∧ h.IsTuple a xs) ∧ (h.IsListIter (N + 1) b (i + 1) ∧ h.IsList b ys) ∧ T ≠ N + 4 ∧ T ≠ N + 3 ∧ T ≠ N ∧ T ≠ N + 1) :=
  WalksT.zipD2 (zip_sep2 (fp1 := [a]) (fp2 := [b]) (fun c hc => by simp at hc; rw [hc]; exact ha) (fun c hc => by simp at hc; rw [hc]; exact hb)) (Draws.tuple hh N a (Nat.ne_of_lt ha) xs) (Draws.list hh (N + 1) b (Nat.ne_of_lt (Nat.lt_succ_of_lt hb)) ys)
theorem turn_zipM {P : Program} {w : World} {K : PySem.W.Frag} {elts : List Expr} {kk : Nat} {tpos : Pos} {N a b : Addr} (ha : a < N) (hb : b < N) :
    Turn P w K (.Tuple elts kk tpos) (ItzM K a b) [N + 4, N + 2, N + 3, N, N + 1] (N + 4) (ZM N a b) where
  mem := by simp
  obj := fun i h st c hc => by
    obtain ⟨g1, g2, ⟨x, y, g3⟩, ⟨o1, e1, _, d1⟩, ⟨o2, e2, _, d2⟩⟩ := st
    simp only [List.mem_cons, List.not_mem_nil, or_false] at hc
    rcases hc with q | q | q | q | q <;> rw [q]
    · exact ⟨_, g1, fun v q => nomatch q⟩
    · exact ⟨_, g2, fun v q => nomatch q⟩
    · exact ⟨_, g3, fun v q => nomatch q⟩
    · exact ⟨o1, e1, fun v q => by rw [d1] at q; cases q⟩
    · exact ⟨o2, e2, fun v q => by rw [d2] at q; cases q⟩
  keep := fun i h h' st k => by
    obtain ⟨g1, g2, ⟨x, y, g3⟩, g4, g5⟩ := st
    exact ⟨k _ (by simp) _ g1, k _ (by simp) _ g2, ⟨x, y, k _ (by simp) _ g3⟩, g4.at fun o q => k N (by simp) o q, g5.at fun o q => k (N + 1) (by simp) o q⟩
  item := by
    intro X hP hw hK hc i pins s σ H E I hf st hg
    subst hP hw hK
    obtain ⟨g1, g2, g3, g4, g5⟩ := st
    obtain ⟨xs, ys, x, y, hqx, hqy, hx, hy⟩ := hg
    obtain ⟨u1, r1, p1, _⟩ := I.tuple hqx
    obtain ⟨u2, r2, p2, _⟩ := I.list hqy
    obtain ⟨v1, hv1, rv1⟩ := r1.get hx
    obtain ⟨v2, hv2, rv2⟩ := r2.get hy
    have W := zm_walk (P := X.prog) (w := X.w) (A := X.A) (show X.A.in1.handled = none from I.ok.hd hc) ha hb u1.toArray u2.toArray
    have hi : i < min u1.toArray.size u2.toArray.size := by
      have q1 := (List.getElem?_eq_some_iff.mp hv1).1
      have q2 := (List.getElem?_eq_some_iff.mp hv2).1
      simp only [List.size_toArray]
      omega
    have low : ∀ c ∈ [N + 4, N + 2, N + 3, N, N + 1], c < s.heap.objs.size := fun c hc => by
      obtain ⟨x, y, g3⟩ := g3
      obtain ⟨o1, e1, _⟩ := g4
      obtain ⟨o2, e2, _⟩ := g5
      simp only [List.mem_cons, List.not_mem_nil, or_false] at hc
      rcases hc with q | q | q | q | q <;> rw [q]
      · exact Heap.lt_size g1
      · exact Heap.lt_size g2
      · exact Heap.lt_size g3
      · exact Heap.lt_size e1
      · exact Heap.lt_size e2
    refine W.item i s _ _ hi ⟨g1, g2, g3, ⟨g4, p1⟩, ⟨g5, p2.isList⟩⟩ fun T vals h' tk hP hle hT hM hk => ⟨_, rfl, ?_⟩
    refine W.go elts kk tpos i T _ _ _ hM fun h'' st' hk2 => ?_
    obtain ⟨x1, x2, f1, f2, rfl⟩ := hP
    obtain rfl : v1 = x1 := Option.some.inj (hv1.symm.trans (by simpa using f1))
    obtain rfl : v2 = x2 := Option.some.inj (hv2.symm.trans (by simpa using f2))
    have hTw : T ∉ [N + 4, N + 3, N, N + 1] := W.apart i T h' hM
    have hT2 : h''.IsTuple T #[v1, v2] := hT.at fun o e => hk2 T o hTw e
    have new : ObjOk X.prog X.w (upd H T (.tup [x, y])) h'' T (.tup [x, y]) := ⟨by show 2 ≤ sizeLine; decide, [v1, v2], .cons rv1 (.cons rv2 .nil), hT2⟩
    have inw : ∀ c, c ∉ [N + 4, N + 2, N + 3, N, N + 1] → c ∉ [N + 4, N + 3, N, N + 1] := fun c h q => h (by simp at q ⊢; rcases q with q | q | q | q <;> simp [q])
    have J : Inv X pins σ (upd H T (.tup [x, y])) { s with heap := h'', toks := tk } := I.turnedNew (ch := [N + 4, N + 2, N + 3, N, N + 1]) (fun c o hb q => hk2 c o (inw c hb) (hk c o (inw c hb) q)) hf hle new
    obtain ⟨b1, b2, b3, b4, b5⟩ := st'
    refine ⟨.ref T, _, J, rfl, ⟨_, x, y, rfl, I.hok.fresh hle, rfl, fun l hl => by rw [I.tuple_inj hl hqx]; exact hx, fun l hl => by rw [I.list_inj hl hqy]; exact hy⟩, ⟨b1, b2, b3, b4.1, b5.1⟩, fun c hcm => ?_⟩
    rw [upd_ne (Nat.ne_of_lt (Nat.lt_of_lt_of_le (low c hcm) hle))]
    exact (hf c hcm).1
  done := by
    intro X hP hw hK hc i pins s σ H E I hf st hg
    subst hP hw hK
    obtain ⟨g1, g2, g3, g4, g5⟩ := st
    obtain ⟨xs, ys, hqx, hqy, hi⟩ := hg
    obtain ⟨u1, r1, p1, _⟩ := I.tuple hqx
    obtain ⟨u2, r2, p2, _⟩ := I.list hqy
    have W := zm_walk (P := X.prog) (w := X.w) (A := X.A) (show X.A.in1.handled = none from I.ok.hd hc) ha hb u1.toArray u2.toArray
    have hm : i = min u1.toArray.size u2.toArray.size := by
      simp only [List.size_toArray]
      rw [← r1.length, ← r2.length]
      exact hi
    subst hm
    have inw : ∀ c, c ∉ [N + 4, N + 2, N + 3, N, N + 1] → c ∉ [N + 4, N + 3, N, N + 1] := fun c h q => h (by simp at q ⊢; rcases q with q | q | q | q <;> simp [q])
    exact W.done s _ _ ⟨g1, g2, g3, ⟨g4, p1⟩, ⟨g5, p2.isList⟩⟩ fun h' tk hk => ⟨rfl, I.turnedL (ch := [N + 4, N + 2, N + 3, N, N + 1]) (fun c o hb q => hk c o (inw c hb) q) hf⟩
  self := fun A i s Q E st h => wpAny_pyIter_zip st.1 h
def iZipM (K : PySem.W.Frag) (ta : TA) : TI := fun σ H R => ta σ H fun vs H1 => ∃ a b xs ys, vs = [.ref a, .ref b] ∧ SqT K H1 a xs ∧ SqL K H1 b ys ∧ R (ItzM K a b) H1
theorem pi_zipM {X : Cx} {e e2 : Expr} {ta : TA} {p pos tpos : Pos} {elts : List Expr} {kk : Nat} (hg : Gl X "zip") (hm : X.mg "zip" = none) (ha : PA X [e, e2] ta)
    (hs : starEach [e, e2] X.env = (false, eval e X.env) :: starEach [e2] X.env := by rfl) (hpl : (backTo pos (starEach [e2] X.env)).any (·.1) = false := by rfl) :
    PI X (.Tuple elts kk tpos) (.Call (.Name "zip" p) [e, e2] [] pos) (iZipM X.K ta) := by
  refine ⟨fun pins s σ H R I h => Call_ (ld_blt I hg hm PyProof.Rows.boot_zip (PyProof.Rows.callWith_type1 (thn (ha.run pos pins s σ H _ I h) fun us s1 ⟨vs, H1, I1, r1, q1⟩ => ?_) hs hpl))⟩
  obtain ⟨a, b, xs, ys, ex, hqx, hqy, q⟩ := q1
  subst ex
  cases r1 with
  | cons r rr =>
  cases rr with
  | cons r' rr =>
  cases rr
  cases r
  cases r'
  obtain ⟨u1, v1, p1, _⟩ := I1.tuple hqx
  obtain ⟨u2, v2, p2, _⟩ := I1.list hqy
  have la : a < s1.heap.objs.size := by obtain ⟨o, ho, _⟩ := id p1; exact Heap.lt_size ho
  have lb : b < s1.heap.objs.size := by obtain ⟨o, ho, _⟩ := p2.isList; exact Heap.lt_size ho
  refine zip_begins2 (begins_tuple a u1.toArray) (begins_list b u2.toArray) p1 p2.isList fun h' a1 a2 a3 a4 a5 a6 a7 => wpAny_pyIter_zip a1 ?_
  have I2 : Inv X pins σ H1 { s1 with heap := h' } := I1.kept (t' := s1.toks) a7
  refine ⟨s1.heap.objs.size + 4, [s1.heap.objs.size + 4, s1.heap.objs.size + 2, s1.heap.objs.size + 3, s1.heap.objs.size, s1.heap.objs.size + 1], _, _, H1, rfl, I2, turn_zipM la lb, ⟨a1, a2, ⟨_, _, a3⟩, ⟨_, a4, rfl, rfl⟩, ⟨_, a5, rfl, rfl⟩⟩, fun c hc => ?_, q⟩
  have hle : s1.heap.objs.size ≤ c := by
    simp only [List.mem_cons, List.not_mem_nil, or_false] at hc
    rcases hc with q | q | q | q | q <;> rw [q]
    · exact Nat.le_add_right _ _
    · exact Nat.le_add_right _ _
    · exact Nat.le_add_right _ _
    · exact Nat.le_refl _
    · exact Nat.le_add_right _ _
  exact I1.fpOk hle (I1.hok.fresh hle)
@[simp] def zip2M : D → D → Option (List D)
  | .tuple xs, .list ys => some (zipL xs ys)
  | _, _ => none
@[simp] def zipMI (ga gb : Rho → Option D) : Rho → Option (List D) := fun ρ => (ga ρ).bind fun d => (gb ρ).bind fun e => zip2M d e
theorem src_zipM {K : PySem.W.Frag} {O : Addr → Prop} {H : Hp} {a b : Addr} {vs ws : List V} {ds es : List D} (ha : H a = some (.tup vs)) (r1 : RepL O H ds vs) (no : ¬ O b) (hb : H b = some (.lst ws)) (r2 : RepL O H es ws) : Src O H (ItzM K a b) (zipL ds es) := by
  refine ⟨fun O H => (H a = some (.tup vs) ∧ RepL O H ds vs) ∧ (¬ O b ∧ H b = some (.lst ws) ∧ RepL O H es ws), ⟨⟨ha, r1⟩, no, hb, r2⟩, fun O H O' H' m ⟨⟨q1, q2⟩, q3, q4, q5⟩ => ⟨⟨m.keep a _ q1 (.inl fun us z => by cases z), RepL.mv m _ _ q2⟩, fun z => (m.out b z).elim q3 (fun q => by rw [q4] at q; cases q), m.keep b _ q4 (.inr q3), RepL.mv m _ _ q5⟩, fun i O H hi ⟨⟨q1, q2⟩, q3, q4, q5⟩ => ?_, fun O H ⟨⟨q1, q2⟩, q3, q4, q5⟩ => ?_, fun i O H x H' hi t ⟨⟨q1, q2⟩, q3, q4, q5⟩ y => ?_⟩
  · rw [zipL_len] at hi
    have l1 := q2.length
    have l2 := q5.length
    exact ⟨vs, ws, vs[i]'(by omega), ws[i]'(by omega), .of q1, .of q4, by simp, by simp⟩
  · exact ⟨vs, ws, .of q1, .of q4, by rw [zipL_len, q2.length, q5.length]⟩
  · obtain ⟨T, x, y, rfl, hT, rfl, f1, f2⟩ := y
    obtain ⟨d, e1, s1⟩ := q2.getV (f1 vs (.of q1))
    obtain ⟨e, e2, s2⟩ := q5.getV (f2 ws (.of q4))
    exact ⟨_, zipL_get ds es i d e e1 e2, same_upd hT, rep_tup hT (.cons s1 (.cons s2 .nil))⟩
theorem di_zipM {X : Cx} {B : Base} {e e2 : Expr} {g g2 : Rho → Option D} {pos p tpos : Pos} {elts : List Expr} {kk : Nat} (hm : X.mg "zip" = none) (h : DP X B .str e g) (h2 : DP X B .str e2 g2) (hg : Gl X "zip" := by rfl) (hs : starEach [e, e2] X.env = (false, eval e X.env) :: starEach [e2] X.env := by rfl) (hs2 : starEach [e2] X.env = (false, eval e2 X.env) :: starEach [] X.env := by rfl) (hpl : (backTo pos (starEach [e2] X.env)).any (·.1) = false := by rfl) :
    DI X B (.Tuple elts kk tpos) (.Call (.Name "zip" p) [e, e2] [] pos) (zipMI g g2) :=
  ⟨(pi_zipM hg hm (pa_cons h.pe (pa_cons h2.pe pa_nil hs2) hs) hs hpl).imp fun σ H R ⟨O, ρ, ds, gd, e, q⟩ => by
    obtain ⟨d1, e1, e'⟩ := bind_some e
    obtain ⟨d2, e2, e3⟩ := bind_some e'
    refine ⟨O, ρ, d1, gd, e1, fun v H1 s1 r1 => ⟨O, ρ, d2, gd.same s1, e2, fun w H2 s2 r2 => ?_⟩⟩
    have r1 := r1.same s2
    unfold zip2M at e3
    split at e3
    · cases e3
      simp only [Rep] at r1 r2
      obtain ⟨a, vs, rfl, ha, r1⟩ := r1
      obtain ⟨b, ws, rfl, no, hb, r2⟩ := r2
      exact ⟨a, b, vs, ws, rfl, .of ha, .of hb, q _ H2 (s1.trans s2) (src_zipM ha r1 no hb r2)⟩
    · cases e3⟩
end DL

set_option autoImplicit false
namespace DL
open PySem PySem.Spec
open PyProof.Rows hiding St
open L2
/-! ## sorted(xs): xs a list of tuples of ints, or a tuple of ints -/
def tupI (r : List Int) : D := .tuple (intsD r)
def rowsOf : List D → Option (List (List Int))
  | [] => some []
  | .tuple xs :: ds => (intsOf xs).bind fun r => (rowsOf ds).bind fun rs => some (r :: rs)
  | _ => none
theorem intsOf_eq : ∀ {ds : List D} {ns : List Int}, intsOf ds = some ns → ds = intsD ns
  | [], ns, h => by simp only [intsOf] at h; cases h; rfl
  | .int b :: ds, ns, h => by
    simp only [intsOf] at h
    obtain ⟨bs, e1, e2⟩ := bind_some h
    cases e2
    rw [intsOf_eq e1]
    rfl
  | .none :: _, _, h => by simp [intsOf] at h
  | .bool _ :: _, _, h => by simp [intsOf] at h
  | .str _ :: _, _, h => by simp [intsOf] at h
  | .list _ :: _, _, h => by simp [intsOf] at h
  | .tuple _ :: _, _, h => by simp [intsOf] at h
  | .dict _ :: _, _, h => by simp [intsOf] at h
theorem rowsOf_eq : ∀ {ds : List D} {rs : List (List Int)}, rowsOf ds = some rs → ds = rs.map tupI
  | [], rs, h => by simp only [rowsOf] at h; cases h; rfl
  | .tuple xs :: ds, rs, h => by
    simp only [rowsOf] at h
    obtain ⟨r, e1, e'⟩ := bind_some h
    obtain ⟨rs', e2, e3⟩ := bind_some e'
    cases e3
    rw [intsOf_eq e1, rowsOf_eq e2]
    rfl
  | .none :: _, _, h => by simp [rowsOf] at h
  | .bool _ :: _, _, h => by simp [rowsOf] at h
  | .str _ :: _, _, h => by simp [rowsOf] at h
  | .list _ :: _, _, h => by simp [rowsOf] at h
  | .int _ :: _, _, h => by simp [rowsOf] at h
  | .dict _ :: _, _, h => by simp [rowsOf] at h
@[simp] theorem rowsOf_rows : ∀ rs : List (List Int), rowsOf (rs.map tupI) = some rs
  | [] => rfl
  | r :: rs => by
    rw [List.map_cons]
    show ((intsOf (intsD r)).bind fun r => (rowsOf (rs.map tupI)).bind fun rs => some (r :: rs)) = _
    rw [intsOf_intsD, rowsOf_rows rs]
    rfl
@[simp] def sortTD : List D → Option D
  | [.list ds] => (rowsOf ds).bind fun rs => if (rs.all fun r => !r.isEmpty) = true ∧ rs.length ≤ 100000 then some (.list ((rs.mergeSort (PySem.W.dataLe false tupI)).map tupI)) else none
  | [.tuple ds] => (intsOf ds).bind fun ns => if ns.length ≤ 100000 then some (.list (intsD (ns.mergeSort (PySem.W.dataLe false PyData.int)))) else none
  | _ => none
def rSortT (K : PySem.W.Frag) : List V → Hp → VK → Prop := fun vs H Q =>
  (∃ (a : Addr) (xs : List V) (rs : List (List Int)) (O : Addr → Prop), vs = [V.ref a] ∧ SqL K H a xs ∧ RepL O H (rs.map tupI) xs ∧ (∀ r ∈ rs, r ≠ []) ∧ rs.length ≤ 100000 ∧
    ∀ (ys : List V) (p : Addr), H p = none → RepL O H ((rs.mergeSort (PySem.W.dataLe false tupI)).map tupI) ys → Q (.ref p) (upd H p (.lst ys))) ∨
  (∃ (a : Addr) (ns : List Int), vs = [V.ref a] ∧ SqT K H a (ns.map V.int) ∧ ns.length ≤ 100000 ∧
    ∀ (p : Addr), H p = none → Q (.ref p) (upd H p (.lst ((ns.mergeSort (PySem.W.dataLe false PyData.int)).map V.int))))
theorem each_rep {O : Addr → Prop} {H : Hp} : ∀ {rs : List (List Int)} {xs : List V} {us : List Value}, RepL O H (rs.map tupI) xs → Vals xs us → PySem.W.EachIs (fun u r => ∃ v, RelV v u ∧ Rep O H (tupI r) v) us rs
  | [], xs, us, h, r => by
    rw [List.map_nil] at h
    simp only [RepL] at h
    subst h
    cases r
    exact .nil
  | q :: rs, xs, us, h, r => by
    rw [List.map_cons] at h
    simp only [RepL] at h
    obtain ⟨v, ws, rfl, r1, r2⟩ := h
    cases r with
    | cons h t => exact .cons ⟨v, h, r1⟩ (each_rep r2 t)
theorem rep_each {O : Addr → Prop} {H : Hp} : ∀ {rs : List (List Int)} {us : List Value}, PySem.W.EachIs (fun u r => ∃ v, RelV v u ∧ Rep O H (tupI r) v) us rs → ∃ ys, Vals ys us ∧ RepL O H (rs.map tupI) ys
  | _, _, .nil => ⟨[], .nil, .nil⟩
  | _, _, .cons ⟨v, h1, h2⟩ t => by
    obtain ⟨ys, r1, r2⟩ := rep_each t
    exact ⟨v :: ys, .cons h1 r1, RepL.cons h2 r2⟩
theorem each_int : ∀ {ns : List Int} {us : List Value}, Vals (ns.map V.int) us → PySem.W.EachIs (fun u n => ∃ t, u = Value.int n t) us ns
  | [], us, r => by cases r; exact .nil
  | n :: ns, us, r => by
    cases r with
    | cons h t => exact .cons h (each_int t)
theorem int_each : ∀ {ns : List Int} {us : List Value}, PySem.W.EachIs (fun u n => ∃ t, u = Value.int n t) us ns → Vals (ns.map V.int) us
  | _, _, .nil => .nil
  | _, _, .cons h t => .cons h (int_each t)
theorem depth_tupI (r : List Int) : (tupI r).depth ≤ 1 := (shp_tup (shp_ints r)).2
section
variable {X : Cx}
theorem cr_sortT (hu : X.A.units + 64 < cLine) : CallR X (.builtin "sorted") (rSortT X.K) := by
  intro pins s σ H vs us Q I r h
  rcases h with ⟨a, xs, rs, O, rfl, hs, hr, hne, hz, q⟩ | ⟨a, ns, rfl, hs, hz, q⟩
  · obtain ⟨its, rv, hl, _⟩ := I.list hs
    rw [Vals.ref1 r]
    have e := each_rep hr rv
    have hlen : its.length = rs.length := e.length
    refine PySem.W.sorted_data (enc := tupI) hl.isList e (e.mono fun u b ⟨v, h1, h2⟩ => Dp.reads I _ _ _ (Rep.dp h2) h1) (PySem.W.AllAlike.of fun b b' => ?_) (.inl fun d hd => ?_) (line_le hz) (fun b _ => ?_) fun out ho eo => ?_
    · show PySem.W.alike (.tuple (intsD b)) (.tuple (intsD b')) = true
      rw [PySem.W.alike]
      exact PySem.W.alike_ints b b'
    · obtain ⟨b, hb, rfl⟩ := List.mem_map.mp hd
      cases b with
      | nil => exact absurd rfl (hne _ hb)
      | cons x b => exact ⟨_, _, rfl⟩
    · have := depth_tupI b; omega
    · obtain ⟨ys, r1, r2⟩ := rep_each eo
      obtain ⟨ep, he'⟩ := PyProof.Rows.sortedAll_at s.heap its out.toArray
      have hyl : ys.length ≤ sizeLine := by rw [r1.length, ho]; exact line_le hz
      exact ⟨.ref _, upd H (s.heap.objs.size + 1) (.lst ys), I.laid (t' := s.toks) (fun _ _ => PyProof.Rows.sortedAll_old) (Nat.le_succ _) ⟨hyl, out, ep, r1, he'⟩, rfl, q ys _ (I.hok.fresh (Nat.le_succ _)) r2⟩
  · obtain ⟨its, rv, ⟨o, ho, hc, n, hd⟩, _⟩ := I.tuple hs
    rw [Vals.ref1 r]
    have hlen : its.length = ns.length := by rw [← rv.length, List.length_map]
    refine PySem.Calls.call_function_entry kind_sorted plain_sorted entry_sorted (args_sorted1 _) ?_
    unfold Builtin.«sorted»
    refine wpAny_bind (m := checkCount "sorted" 1 1 _) (wpAny_pure ?_)
    refine wpAny_bind (wpAny_collect_seq a (.inr rfl) ho hc hd (fun h' hk => ?_) (by rw [List.size_toArray, hlen]; exact line_le hz))
    have ei : its.toArray.toList = its := by simp
    rw [ei]
    refine wpAny_bind (wpAny_newList ?_ (by rw [hlen]; exact line_le hz))
    have I' : Inv X pins σ H { s with heap := h', toks := s.toks } := I.kept (t' := s.toks) hk
    have e := each_int rv
    have hob : (h'.push { cls := .type "list", data := .seq its.toArray }).get? h'.objs.size = some (seqObj "list" its.toArray 0) := Heap.get?_push_size _ rfl
    refine wpAny_bind (wpAny_holding (wpAny_mono (PySem.W.list_sort_data (s := { s with heap := h'.push { cls := .type "list", data := .seq its.toArray } }) (enc := PyData.int) (Q := fun _ s' => EP X pins σ Q (.ref h'.objs.size) s') hob e (e.mono fun u b ⟨t, h1⟩ => ⟨_, h1 ▸ Reads.int b t, by simp⟩) (PySem.W.AllAlike.of fun b b' => by simp [PySem.W.alike]) (PySem.W.Sortable.others fun b => ⟨by simp, fun xs => by simp⟩) (line_le hz) (fun b _ => ?_) fun out hol eo => ?_) (fun _ s' x => ?_) fun _ _ e => e))
    · have : (PyData.int b).depth = 0 := by simp [PyData.depth]
      rw [this]
      show X.A.units + 1 + 1 + 0 < cLine
      omega
    · have r1 := int_each eo
      obtain ⟨ep, he'⟩ := PyProof.Rows.sortedHeap_at (out := out.toArray) hob
      have hyl : ((ns.mergeSort (PySem.W.dataLe false PyData.int)).map V.int).length ≤ sizeLine := by rw [List.length_map, List.length_mergeSort]; exact line_le hz
      exact ⟨.ref _, upd H h'.objs.size (.lst ((ns.mergeSort (PySem.W.dataLe false PyData.int)).map V.int)), I'.laid (t' := s.toks) (fun b u hb => by
        have hlt := Heap.lt_size hb
        rw [PyProof.Rows.sortedHeap_old (Nat.ne_of_lt hlt) (by rw [size_push']; exact Nat.lt_succ_of_lt hlt)]
        exact Heap.get?_push_of_some _ hb) (Nat.le_refl _) ⟨hyl, out, ep, r1, he'⟩, rfl, q _ (I'.hok.fresh (Nat.le_refl _))⟩
    · exact wpAny_pure ⟨_, rfl, x⟩
theorem n_sortT {K : PySem.W.Frag} : OpN (rSortT K) sortTD := by
  intro O H ds z xs Q t hf rx q
  unfold sortTD at hf
  split at hf
  · obtain ⟨rs, e1, e2⟩ := bind_some hf
    split at e2
    · next hj =>
      cases e2
      obtain ⟨v, rfl, r⟩ := repL_one rx
      simp only [Rep] at r
      obtain ⟨a, vs, rfl, _, ha, r⟩ := r
      rw [rowsOf_eq e1] at r
      refine .inl ⟨a, vs, rs, O, rfl, .of ha, r, fun r hr z => ?_, hj.2, fun ys p hn hy => q _ _ (same_upd hn) (rep_lst t hn hy)⟩
      have := List.all_eq_true.mp hj.1 r hr
      rw [z] at this
      cases this
    · cases e2
  · obtain ⟨ns, e1, e2⟩ := bind_some hf
    split at e2
    · next hj =>
      cases e2
      obtain ⟨v, rfl, r⟩ := repL_one rx
      simp only [Rep] at r
      obtain ⟨a, vs, rfl, ha, r⟩ := r
      cases ints_rep r e1
      exact .inr ⟨a, ns, rfl, .of ha, hj, fun p hn => q _ _ (same_upd hn) (rep_lst t hn (rep_intsD _))⟩
    · cases e2
  · cases hf
end
end DL

set_option autoImplicit false
namespace DL
open PySem PySem.Spec
open PyProof.Rows hiding St
open L2
/-! ## a op1 b op2 c op3 d, asked -/
def tChain3 (r r' r'' : R2) (ta tb tc td : TE) : TE := fun σ H Q => ta σ H fun x H1 => tb σ H1 fun y H2 => r x y H2 fun z H3 => ∃ k, z = .bl k ∧
  (if k = true then tc σ H3 fun w' H4 => r' y w' H4 fun z' H5 => ∃ k', z' = .bl k' ∧ (if k' = true then td σ H5 fun u H6 => r'' w' u H6 Q else Q (.bl false) H5) else Q (.bl false) H3)
@[simp] def ch3D (f1 f2 f3 : D → D → Option D) (ga gb gc gd : Rho → Option D) : Rho → Option D := fun ρ => (ga ρ).bind fun a => (gb ρ).bind fun b => (f1 a b).bind fun r => (asBool r).bind fun c => if c = true then
  (gc ρ).bind fun d => (f2 b d).bind fun r2 => (asBool r2).bind fun c2 => if c2 = true then (gd ρ).bind fun e => f3 d e else some (.bool false) else some (.bool false)
section
variable {X : Cx} {B : Base} {m : Md} {a b c d : Expr} {ta tb tc td : TE} {ga gb gc gd : Rho → Option D} {pos : Pos}
theorem pt_chain3 {op op' op'' : CmpOp} {r r' r'' : R2} (ho : OpR X (compareOp op) r) (ho' : OpR X (compareOp op') r') (ho'' : OpR X (compareOp op'') r'') (ha : PE X a ta) (hb : PE X b tb) (hc : PE X c tc) (hd : PE X d td)
    (hm : lastMarks [op, op', op''] [b, c, d] = false := by with_unfolding_all rfl) : PT X (.Compare a [op, op', op''] [b, c, d] pos) (tTest (tChain3 r r' r'' ta tb tc td)) := by
  refine ⟨fun pins s σ H Q I h => ?_⟩
  refine isTrue_chain (thn (ha.run pins s σ H _ I h) fun v s1 ⟨x, H1, I1, r1, q1⟩ => test_link (thn (hb.run pins s1 σ H1 _ I1 q1) fun u s2 ⟨y, H2, I2, r2, q2⟩ =>
    thn (ho pins s2 σ H2 x y v u _ I2 r1 r2 q2) fun d s3 ⟨z, H3, I3, r3, k, e, q3⟩ => ?_)) hm
  subst e
  cases r3
  refine wpAny_truthy_bool ?_
  cases k with
  | false =>
    obtain ⟨k', e', q'⟩ := q3
    cases e'
    exact ite_ff ⟨H3, I3, q'⟩
  | true =>
    refine ite_tt (test_link (thn (hc.run pins s3 σ H3 _ I3 q3) fun w' s4 ⟨z', H4, I4, r4, q4⟩ => thn (ho' pins s4 σ H4 y z' u w' _ I4 r2 r4 q4) fun d2 s5 ⟨z2, H5, I5, r5, k2, e2, q5⟩ => ?_))
    subst e2
    cases r5
    refine wpAny_truthy_bool ?_
    cases k2 with
    | false =>
      obtain ⟨k', e', q'⟩ := q5
      cases e'
      exact ite_ff ⟨H5, I5, q'⟩
    | true =>
      refine ite_tt (test_last (thn (hd.run pins s5 σ H5 _ I5 q5) fun w2 s6 ⟨z6, H6, I6, r6, q6⟩ => thn (ho'' pins s6 σ H6 z' z6 w' w2 _ I6 r4 r6 q6) fun c' s7 ⟨z7, H7, I7, r7, k', e7, q7⟩ => ?_))
      subst e7
      cases r7
      exact wpAny_truthy_bool ⟨H7, I7, q7⟩
theorem ch3_imp {r r' r'' : R2} {F F' F'' : D → D → Option D} (hf : Op2 r F) (hf' : Op2 r' F') (hf'' : Op2 r'' F'') {σ : St} {H : Hp} {Q : VK} (h : tP B m (ch3D F F' F'' ga gb gc gd) σ H Q) : tChain3 r r' r'' (tP B m ga) (tP B m gb) (tP B m gc) (tP B m gd) σ H Q := by
  obtain ⟨O, ρ, z, gg, e, q⟩ := h
  obtain ⟨d1, e1, e'⟩ := bind_some e
  obtain ⟨d2, e2, e3⟩ := bind_some e'
  obtain ⟨d3, e3, e4⟩ := bind_some e3
  obtain ⟨k, e5, e6⟩ := bind_some e4
  cases asBool_some e5
  refine ⟨O, ρ, d1, gg, e1, fun v H1 s1 r1 => ⟨O, ρ, d2, gg.same s1, e2, fun w H2 s2 r2 => ?_⟩⟩
  refine hf _ H2 d1 d2 _ v w _ ((gg.same (s1.trans s2)).otr m) e3 (r1.same s2) r2 fun u H3 s3 r3 => ⟨k, rep_bool.mp r3, ?_⟩
  cases k with
  | false =>
    cases e6
    exact q _ H3 ((s1.trans s2).trans s3) (rep_bool.mpr rfl)
  | true =>
    obtain ⟨d4, e7, e8⟩ := bind_some e6
    obtain ⟨d5, e9, e10⟩ := bind_some e8
    obtain ⟨k2, e11, e12⟩ := bind_some e10
    cases asBool_some e11
    have s13 := (s1.trans s2).trans s3
    refine ⟨O, ρ, d4, gg.same s13, e7, fun y H4 s4 r4 => ?_⟩
    refine hf' _ H4 d2 d4 _ w y _ ((gg.same (s13.trans s4)).otr m) e9 ((r2.same s3).same s4) r4 fun u H5 s5 r5 => ⟨k2, rep_bool.mp r5, ?_⟩
    have s15 := (s13.trans s4).trans s5
    cases k2 with
    | false =>
      cases e12
      exact q _ H5 s15 (rep_bool.mpr rfl)
    | true =>
      obtain ⟨d6, e13, e14⟩ := bind_some e12
      refine ⟨O, ρ, d6, gg.same s15, e13, fun x H6 s6 r6 => ?_⟩
      exact hf'' _ H6 d4 d6 z y x Q ((gg.same (s15.trans s6)).otr m) e14 ((r4.same s5).same s6) r6 fun u H7 s7 r7 => q u H7 ((s15.trans s6).trans s7) r7
theorem dt_chain3 {op op' op'' : CmpOp} {r r' r'' : R2} {F F' F'' : D → D → Option D} (ho : OpR X (compareOp op) r) (hf : Op2 r F) (ho' : OpR X (compareOp op') r') (hf' : Op2 r' F') (ho'' : OpR X (compareOp op'') r'') (hf'' : Op2 r'' F'') (ha : DP X B m a ga) (hb : DP X B m b gb) (hc : DP X B m c gc) (hd : DP X B m d gd)
    (h1 : lastMarks [op, op', op''] [b, c, d] = false := by with_unfolding_all rfl) : DPT X B (.Compare a [op, op', op''] [b, c, d] pos) (tstD (ch3D F F' F'' ga gb gc gd)) :=
  ⟨(pt_chain3 ho ho' ho'' ha.pe hb.pe hc.pe hd.pe h1).imp fun σ H Q ⟨O, ρ, k, gg, e, q⟩ => by
    obtain ⟨d, e0, ek⟩ := bind_some e
    cases asBool_some ek
    exact ch3_imp hf hf' hf'' ⟨O, ρ, _, gg, e0, fun v H1 s1 r1 => ⟨k, rep_bool.mp r1, q H1 s1⟩⟩⟩
end
end DL

set_option autoImplicit false
namespace DL
open PySem PySem.Spec
open PyProof.Rows hiding St
open L2
/-! ## xs.count(e), xs.remove(e), lists of whole numbers -/
@[simp] def lcountD : D → D → Option D
  | .list ds, .int k => (intsOf ds).bind fun ns => some (.int (ns.count k : Nat))
  | _, _ => none
@[simp] def remF (i : Nat) (g : Rho → Option D) : Rho → Option Out := fun ρ => (g ρ).bind fun d => (asInt d).bind fun k => (ρ[i]?).bind fun t => (ownOf t).bind fun es => (intsOf es).bind fun ns => if k ∈ ns then some (.nx (ρ.set i (reOwn t (intsD (ns.erase k))))) else none
theorem u65 {k : Nat} {A : Around} (r : Room k A) : A.units + 65 < cLine := by have := r.un; omega
section
variable {X : Cx} {B : Base} {m : Md} {a b e : Expr} {ga gb g : Rho → Option D} {pos : Pos}
theorem dp_lcount {apos cpos : Pos} (ha : DP X B m a ga) (hb : DP X B m b gb) (hst : starEach [b] X.env = [(false, eval b X.env)] := by rfl)
    (hpe : ∀ {to : TE} {t : TA}, PE X a to → PA X [b] t → PE X (.Call (.Attribute a "count" apos) [b] [] cpos) (tBM X.K "list" (rCntI X.K) to t) := by
      intro to t h1 h2; exact pe_bm PySem.F.plainAttrs_list PySem.F.slot_list_count PySem.F.type_list_count mt_lcount h1 h2) :
    DP X B m (.Call (.Attribute a "count" apos) [b] [] cpos) (b2D ga gb lcountD) := ⟨(hpe ha.pe (pa_cons hb.pe pa_nil hst)).imp fun σ H Q ⟨O, ρ, d, gd, e, q⟩ => by
  obtain ⟨d1, e1, e'⟩ := bind_some e
  obtain ⟨d2, e2, e3⟩ := bind_some e'
  refine ⟨O, ρ, d1, gd, e1, fun v H1 s1 r1 => ?_⟩
  cases d1 with
  | list ds =>
    cases d2 with
    | int k =>
      obtain ⟨ns, e5, e6⟩ := bind_some e3
      cases e6
      simp only [Rep] at r1
      obtain ⟨l, vs, rfl, nO, hl, r⟩ := r1
      cases ints_rep r e5
      refine ⟨.inl ⟨rfl, _, .of hl⟩, O, ρ, _, gd.same s1, e2, fun w H2 s2 r2 => ?_⟩
      refine ⟨l, ns, k, rfl, by rw [rep_int.mp r2], .of (s2 l _ hl), ?_⟩
      exact q _ H2 (s1.trans s2) (rep_int.mpr rfl)
    | _ => cases e3
  | _ => cases e3⟩
theorem ds_rem {i : Nat} {x : Str} {apos xpos cpos : Pos} (hN : X.N[i]? = some x) (he : DP X B .str e g) (hv : Vis X.env.scope x := by first | exact Or.inl rfl | exact Or.inr (Or.inl rfl) | exact Or.inr (Or.inr rfl)) (hd : (x == ("__debug__" : Str)) = false := by decide)
    (hcd : (x == ("__classdict__" : Str)) = false := by decide)
    (hpe : ∀ {to : TE} {t : TA}, PE X (.Name x xpos) to → PA X [e] t → PE X (.Call (.Attribute (.Name x xpos) "remove" apos) [e] [] cpos) (tBM X.K "list" rRemI to t) := by
      intro to t h1 h2; exact pe_bm PySem.F.plainAttrs_list PySem.F.slot_list_remove PySem.F.type_list_remove mt_remove h1 h2)
    (hs : swapsWith (.Call (.Attribute (.Name x xpos) "remove" apos) [e] [] cpos) none pos.line X.env = pure false := by rfl) (hst : starEach [e] X.env = [(false, eval e X.env)] := by rfl) :
    DS X B (.Expr (.Call (.Attribute (.Name x xpos) "remove" apos) [e] [] cpos) pos) (remF i g) := ⟨(ps_expr (hpe (pv i hN hv hd hcd) (pa_cons he.pe pa_nil hst)) hs).imp fun E σ H ⟨O, ρ, r, gd, e, q⟩ => by
  obtain ⟨d, e1, e2⟩ := bind_some e
  obtain ⟨k, ek, e2'⟩ := bind_some e2
  obtain ⟨t, e3, e4⟩ := bind_some e2'
  obtain ⟨es, e5, e6⟩ := bind_some e4
  obtain ⟨ns, e7, e8⟩ := bind_some e6
  have ed : d = .int k := by
    unfold asInt at ek
    split at ek
    · cases ek; rfl
    · cases ek
  subst ed
  split at e8
  · next hk =>
    cases e8
    obtain ⟨a, vs, h1, h2, h3, h4⟩ := gd.ownAt e3 e5
    cases ints_rep h4 e7
    obtain ⟨j, j1, j2, j3, j4⟩ := first_at hk
    refine ⟨_, h1, .inl ⟨rfl, _, .of h3⟩, O, ρ, _, gd, e1, fun v H1 s1 r1 => ?_⟩
    refine ⟨a, ns, k, j, rfl, by rw [rep_int.mp r1], s1 a _ h3, j2, j3, ?_⟩
    rw [j4]
    have g1 := gd.same s1
    have x := g1.put (H' := upd H1 a (.lst ((ns.erase k).map V.int))) e3 e5 h1 (fun b o hb e => by rw [upd_ne hb]; exact e) upd_same (rep_intsD _)
    exact q σ _ O (.ext ((Ext.of gd s1).trans x)) x.good
  · cases e8⟩
/-- list(e) for a name of its own -/
@[simp] def ownL : D → Option D
  | .list ds => if immL ds = true then some (.list ds) else none
  | .tuple ds => if immL ds = true then some (.list ds) else none
  | _ => none
theorem df_list {p : Pos} (hm : X.mg "list" = none) (ha : DP X B .str a ga) (hg : Gl X "list" := by rfl) (he : starEach [a] X.env = (false, eval a X.env) :: starEach [] X.env := by rfl) : DF X B (.Call (.Name "list" p) [a] [] pos) (b1D ga ownL) :=
  ⟨(pe_callTy call_list_of hg hm boot_list (pa_cons ha.pe pa_nil he) (by decide) (by decide) he rfl).imp fun σ H Q ⟨O, ρ, ds, gd, e, q⟩ => by
    obtain ⟨d, e1, e2⟩ := bind_some e
    refine ⟨O, ρ, d, gd, e1, fun v H1 s1 r1 => ?_⟩
    have fin : ∀ (l : Addr) (vs : List V) (es : List D), immL es = true → RepL (Md.O .str B O) H1 es vs → H1 l = none → ds = es → Q (.ref l) (upd H1 l (.lst vs)) := fun l vs es hi r hl hd => by
      subst hd
      have hn : H l = none := by
        cases h : H l with
        | none => rfl
        | some o => rw [s1 _ _ h] at hl; cases hl
      exact q l vs _ (s1.trans (same_upd hl)) hn upd_same (RepL.same (same_upd hl) (r.imm hi))
    cases d with
    | list es =>
      simp only [ownL] at e2
      split at e2
      · next hi =>
        cases e2
        simp only [Rep] at r1
        obtain ⟨a, vs, rfl, _, ha, r⟩ := r1
        exact ⟨a, vs, rfl, .inl (.of ha), fun l hl => fin l vs _ hi r hl rfl⟩
      · cases e2
    | tuple es =>
      simp only [ownL] at e2
      split at e2
      · next hi =>
        cases e2
        simp only [Rep] at r1
        obtain ⟨a, vs, rfl, ha, r⟩ := r1
        exact ⟨a, vs, rfl, .inr (.of ha), fun l hl => fin l vs _ hi r hl rfl⟩
      · cases e2
    | _ => cases e2⟩
end
end DL

set_option autoImplicit false
namespace DL
open PySem PySem.Spec
open PyProof.Rows hiding St
open L2 GenW
/-! ## yield from a list, whatever the consumer does meanwhile -/
section
variable {prog : Program} {w : World} {A : Around} {E : Value → Shared → Prop} {s : Shared}
theorem special_list_item {it l : Addr} {i : Nat} {items : Array Value} {x : Value} {Q : Option Value → Shared → Prop} (hit : s.heap.IsListIter it l i) (hl : s.heap.IsList l items) (hx : items[i]? = some x)
    (hQ : ∀ h', h'.IsListIter it l (i + 1) → Heap.SameBut it s.heap h' → Q (some x) { s with heap := h' }) : wpAny (model prog w) A (callSpecial? (.ref it) "__next__") Q E s := by
  obtain ⟨o, ho, hc, hd⟩ := id hit
  obtain ⟨ol, hol, _, nl, hdl⟩ := hl
  refine wpAny_callSpecial?_slot (name := Str.ofString "__next__") hit.typeIs slot_listiter_next (wpAny_call_entry slot_listiter_next hit.typeIs entry_listiter_next ?_ (args_listiter_next _))
  show wpAny _ _ (field (.ref it) 0 >>= _) _ _ s
  refine wpAny_bind (wpAny_field ho hd (x := .ref l) rfl ?_)
  show wpAny _ _ (if (Value.ref l == Value.none) = true then _ else _) _ _ s
  rw [if_neg (show ¬ ((Value.ref l == Value.none) = true) from Bool.false_ne_true)]
  show wpAny _ _ (field (.ref it) 1 >>= _) _ _ s
  refine wpAny_bind (wpAny_field ho hd (x := .int i 0) rfl ?_)
  show wpAny _ _ (seqItems? (.ref l) >>= _) _ _ s
  refine wpAny_bind (wpAny_seqItems hol hdl ?_)
  simp only [Int.toNat_natCast, hx]
  refine wpAny_bind (wpAny_setField ho hd (by simp) (wpAny_pure ⟨x, rfl, hQ _ ?_ (Heap.SameBut.update ..)⟩))
  exact ⟨_, Heap.get?_update_self _ ho (Obj.isFreed_of_fields (Obj.data_mapFields hd _)), (Obj.cls_mapFields ..).trans hc, by
    rw [Obj.data_mapFields hd]; simp [rawInt]⟩
theorem special_list_end {it l : Addr} {i : Nat} {items : Array Value} {Q : Option Value → Shared → Prop} (hh : A.handled = none) (hit : s.heap.IsListIter it l i) (hl : s.heap.IsList l items) (hx : items[i]? = none)
    (hE : ∀ e h', StopX e h' → Heap.ExtBut it s.heap h' → E e { s with heap := h' }) : wpAny (model prog w) A (callSpecial? (.ref it) "__next__") Q E s := by
  obtain ⟨o, ho, hc, hd⟩ := id hit
  obtain ⟨ol, hol, _, nl, hdl⟩ := hl
  refine wpAny_callSpecial?_slot (name := Str.ofString "__next__") hit.typeIs slot_listiter_next (wpAny_call_entry slot_listiter_next hit.typeIs entry_listiter_next ?_ (args_listiter_next _))
  show wpAny _ _ (field (.ref it) 0 >>= _) _ _ s
  refine wpAny_bind (wpAny_field ho hd (x := .ref l) rfl ?_)
  show wpAny _ _ (if (Value.ref l == Value.none) = true then _ else _) _ _ s
  rw [if_neg (show ¬ ((Value.ref l == Value.none) = true) from Bool.false_ne_true)]
  show wpAny _ _ (field (.ref it) 1 >>= _) _ _ s
  refine wpAny_bind (wpAny_field ho hd (x := .int i 0) rfl ?_)
  show wpAny _ _ (seqItems? (.ref l) >>= _) _ _ s
  refine wpAny_bind (wpAny_seqItems hol hdl ?_)
  simp only [Int.toNat_natCast, hx]
  refine wpAny_bind (wpAny_rule (wpAny_bind (wpAny_setField ho hd (by simp) ?_)))
  show wpAny _ _ (newExc (.type "StopIteration") [] >>= _) _ _ _
  refine wpAny_bind ?_
  simp only [newExc, newTuple]
  refine wpAny_bind (wpAny_newObj_type ?_ (by size_fits))
  refine wpAny_bind (m := firstArgMember _ _) (wpAny_of_eq (a := Value.none) (by first | rfl | (simp only [firstArgMember]; rfl)) ?_)
  refine wpAny_newObj_type ?_ (by size_fits)
  simp only [raiseNew]
  refine wpAny_bind (wpAny_handled ?_)
  first | rw [show A.in1.handled = none from hh] | rw [hh]
  refine wpAny_bind (wpAny_pure (wpAny_throw ?_))
  refine hE _ _ ⟨_, _, _, rfl, Heap.get?_push_size _ rfl, rfl, rfl, ?_⟩ (((Heap.SameBut.update ..).extBut.push _).push _)
  first
    | rfl
    | (rw [Array.getElem?_append_left (by decide)]; rfl)
    | kernel_rfl
end
theorem close_listit : typeLookup (.type "list_iterator") "close" = pure none := by rw [typeLookup_type, builtinLookup_eq_fast]; kernel_rfl
/-- the iterator at it stands ahead of item j of the list at R -/
def LSt (it R : Addr) (items : Array Value) (j : Nat) (h : Heap) : Prop := h.IsListIter it R j ∧ h.IsList R items ∧ it ≠ R
def KpB (it : Addr) (s₀ s : Shared) : Prop := (∃ R i, s₀.heap.IsListIter it R i) ∧ ∀ b o, b ≠ it → s₀.heap.get? b = some o → s.heap.get? b = some o
/-- an item comes out: the m last ones are still to come -/
def YW (L N0 : Nat) (RP : Addr → Prop) (ys : List V) (fst : Shared → Prop) : Protocol := fun m s₀ v s kap =>
  AllBare s.gens ∧ s.os = s₀.os ∧ ∃ (it R : Addr) (items : Array Value), N0 ≤ it ∧ RP R ∧ Vals ys items.toList ∧ items[L - (m + 1)]? = some v ∧ m + 1 ≤ L ∧
    LSt it R items (L - m) s.heap ∧ (if m + 1 = L then fst s else KpB it s₀ s) ∧ ∀ s', AllBare s'.gens → LSt it R items (L - m) s'.heap → kap (.send .none) s'
def FW (L N0 : Nat) (fst : Shared → Prop) : Nat → Shared → Shared → Prop := fun n s₀ s => n = 0 ∧ AllBare s.gens ∧ s.os = s₀.os ∧ (if L = 0 then fst s else ∃ it, N0 ≤ it ∧ KpB it s₀ s)
def RW (L N0 : Nat) (fst : Shared → Prop) : GenEnd := fun n s₀ r s => ((r = .ok (.ret .none) ∨ r = .ok .next) ∧ FW L N0 fst n s₀ s) ∨ ∃ e, r = .error e ∧ False
theorem LSt.keep {it R : Addr} {items : Array Value} {j : Nat} {h h' : Heap} (l : LSt it R items j h) (k : ∀ b o, b = it ∨ b = R → h.get? b = some o → h'.get? b = some o) : LSt it R items j h' := by
  obtain ⟨⟨o, e, r⟩, ⟨o2, e2, r2⟩, ne⟩ := l
  exact ⟨⟨o, k it o (.inl rfl) e, r⟩, ⟨o2, k R o2 (.inr rfl) e2, r2⟩, ne⟩
section
variable {P : Program} {w : World}
theorem seg_yfW {A : Around} {fs : List Frame} {it R : Addr} {items : Array Value} {L N0 : Nat} {ys : List V} {fst : Shared → Prop} (hN : N0 ≤ it) {RP : Addr → Prop} (hR : RP R) (hL : items.size = L) (hv : Vals ys items.toList)
    (hf : ∀ (s : Shared) (h' : Heap) (tk : Nat) (j : Nat), LSt it R items j s.heap → fst s → (∀ b o, b ≠ it → s.heap.get? b = some o → h'.get? b = some o) → fst { s with heap := h', toks := tk })
    (ho : (A.over (.builtin "proto.yield_from" ⟨[.ref it, .bool false, .none], []⟩) fs).handled = none) (hsp : splitAtGen fs = none) (hgd : fs.any Frame.guarded = false)
    (hend : ∀ (n : Nat) (s₀ s : Shared), FW L N0 fst n s₀ s → Seg (model P w) A (RW L N0 fst) (YW L N0 RP ys fst) n s₀ (.builtin "proto.yield_from" ⟨[.ref it, .bool false, .none], []⟩) (.pure (.done (.ret .none))) fs s) :
    ∀ (r j : Nat) (s₀ s : Shared), j + r = L → AllBare s.gens → s.os = s₀.os → (if j = 0 then fst s else KpB it s₀ s) → LSt it R items j s.heap →
      Seg (model P w) A (RW L N0 fst) (YW L N0 RP ys fst) r s₀ (.builtin "proto.yield_from" ⟨[.ref it, .bool false, .none], []⟩) ((model P w).den (.builtin "proto.yield_from" ⟨[.ref it, .bool false, .none], []⟩)) fs s := by
  have dn : (model P w).den (.builtin "proto.yield_from" ⟨[.ref it, .bool false, .none], []⟩) = Builtin.«proto.yield_from» ⟨[.ref it, .bool false, .none], []⟩ := by
    show (match entryFor table "proto.yield_from" with | some b => b ⟨[.ref it, .bool false, .none], []⟩ | none => unsupported ((withoutEnding? "proto.yield_from" "#data").getD "proto.yield_from")) = _
    rw [entry_yf]
  have hng : (Value.type "list_iterator" != Value.type "generator") = true := by decide
  intro r
  induction r with
  | zero =>
    intro j s₀ s hj hb hos hk hst
    have hj' : j = L := by omega
    subst hj'
    rw [dn]
    unfold Builtin.«proto.yield_from»
    try dsimp only
    refine seg_bind (wpAny_pure ?_)
    try dsimp only
    refine seg_bind (wpAny_attempt (wpAny_holding ?_))
    rw [if_neg Bool.false_ne_true, if_pos (show (Value.none == Value.none) = true from rfl)]
    refine wpAny_bind (wpAny_rule (wpAny_bind ?_))
    refine special_list_end ho hst.1 hst.2.1 (by rw [← hL]; simp) fun e h' hS hk2 => ?_
    obtain ⟨a, o, vs, rfl, hoa, hcls, hdat, h5⟩ := hS
    try dsimp only
    refine seg_bind (wpAny_endsTurn hoa hcls ?_)
    try dsimp only
    rw [if_pos rfl]
    first
      | refine seg_bind (wpAny_rule ?_)
      | (rw [if_neg Bool.false_ne_true]; refine seg_bind (wpAny_rule ?_))
      | (rw [if_neg Bool.false_ne_true]; refine seg_bind (wpAny_pure ?_); refine seg_bind (wpAny_rule ?_))
    refine seg_bind (wpAny_field hoa hdat h5 ?_)
    refine hend 0 s₀ _ ⟨rfl, hb, hos, ?_⟩
    by_cases z : j = 0
    · rw [if_pos z] at hk ⊢
      exact hf s _ s.toks j hst hk fun b o hb eb => hk2 b o hb eb
    · rw [if_neg z] at hk ⊢
      exact ⟨it, hN, hk.1, fun b o hb eb => hk2 b o hb (hk.2 b o hb eb)⟩
  | succ r ih =>
    intro j s₀ s hj hb hos hk hst
    have hjl : j < items.size := by omega
    obtain ⟨x, hx⟩ : ∃ x, items[j]? = some x := ⟨items[j], Array.getElem?_eq_getElem hjl⟩
    rw [dn]
    unfold Builtin.«proto.yield_from»
    try dsimp only
    refine seg_bind (wpAny_pure ?_)
    try dsimp only
    refine seg_bind (wpAny_attempt (wpAny_holding ?_))
    rw [if_neg Bool.false_ne_true, if_pos (show (Value.none == Value.none) = true from rfl)]
    refine wpAny_bind (wpAny_rule (wpAny_bind ?_))
    refine special_list_item hst.1 hst.2.1 hx fun h' hst' hs => ?_
    have hl' : h'.IsList R items := let ⟨ob, eb, r⟩ := hst.2.1; ⟨ob, (hs.2 R (Ne.symm hst.2.2)).trans eb, r⟩
    have hL' : LSt it R items (j + 1) h' := ⟨hst', hl', hst.2.2⟩
    obtain ⟨oi, hoi, hoc, _⟩ := id hst'
    refine wpAny_pure ?_
    try dsimp only
    refine seg_bind (wpAny_typeOf (T := "list_iterator") ⟨oi, hoi, hoc⟩ ?_)
    try dsimp only
    first
      | (refine seg_bind (wpAny_of_eq close_listit ?_); refine seg_bind (wpAny_pure ?_))
      | refine seg_bind (wpAny_bind (wpAny_of_eq close_listit (wpAny_pure ?_)))
      | refine seg_bind (wpAny_of_eq close_listit ?_)
    try dsimp only
    refine seg_bind (wpAny_sleptOver hoi hoc hng ?_)
    refine seg_yield hsp rfl hgd ?_
    have e1 : L - (r + 1) = j := by omega
    have e2 : L - r = j + 1 := by omega
    refine ⟨hb, hos, it, R, items, hN, hR, hv, by rw [e1]; exact hx, by omega, by rw [e2]; exact hL', ?_, fun s'' hb'' z => ?_⟩
    · by_cases q : j = 0
      · rw [if_pos q] at hk
        rw [if_pos (by omega)]
        exact hf s h' s.toks j hst hk fun b o hb eb => (hs.2 b hb).trans eb
      · rw [if_neg q] at hk
        rw [if_neg (by omega)]
        exact ⟨hk.1, fun b o hb eb => (hs.2 b hb).trans (hk.2 b o hb eb)⟩
    rw [e2] at z
    obtain ⟨oj, hoj, hojc, _⟩ := id z.1
    show Seg _ _ _ _ r s'' _ (Builtin.Generator.sleptOver (.ref it) false >>= fun _ => _) fs s''
    refine seg_bind (wpAny_sleptOver hoj hojc hng ?_)
    try dsimp only
    refine seg_bind (wpAny_pure ?_)
    exact seg_again (plainId_quiet plain_yf _) (ih (j + 1) s'' s'' (by omega) hb'' rfl (by rw [if_neg (by omega)]; exact ⟨⟨R, j + 1, z.1⟩, fun b o _ e => e⟩) z)
end
end DL

set_option autoImplicit false
namespace DL
open PySem PySem.Spec
open PyProof.Rows hiding St
open L2 GenW
/-! ## a generator def called; its first turn -/
def fstX (X : Cx) (pins : List (Addr × Obj)) (σ : L2.St) (H : Hp) (s : Shared) (a : Addr) (g : Nat) (s1 : Shared) : Prop :=
  ∃ H1, Inv X pins σ H1 s1 ∧ Same H H1 ∧ (∀ b, H1 b ≠ none → b < s.heap.objs.size ∨ ∃ xs, H1 b = some (.tup xs)) ∧ s1.heap.IsGen a g
theorem gen_it {h : Heap} {a it : Addr} {g i : Nat} {R : Addr} (x : h.IsGen a g) (y : h.IsListIter it R i) : a ≠ it := by
  obtain ⟨o, nm, qn, ho, hc, _⟩ := x
  obtain ⟨o2, ho2, hc2, _⟩ := y
  intro z
  subst z
  rw [ho] at ho2
  cases ho2
  rw [hc] at hc2
  exact absurd hc2 (by decide)
theorem gen_keep {h h' : Heap} {a it : Addr} {g i : Nat} {R : Addr} (x : h.IsGen a g) (y : h.IsListIter it R i) (k : ∀ b o, b ≠ it → h.get? b = some o → h'.get? b = some o) : h'.IsGen a g := by
  have ne := gen_it x y
  obtain ⟨o, nm, qn, ho, r⟩ := x
  exact ⟨o, nm, qn, k a o ne ho, r⟩
/-- an iterator of a list is none of the told objects -/
theorem it_none {X : Cx} {pins : List (Addr × Obj)} {σ : L2.St} {H1 : Hp} {s s1 : Shared} {it R : Addr} {i : Nat} (I : Inv X pins σ H1 s1) (hN : s.heap.objs.size ≤ it) (y : s1.heap.IsListIter it R i)
    (ht : ∀ b, H1 b ≠ none → b < s.heap.objs.size ∨ ∃ xs, H1 b = some (.tup xs)) : H1 it = none := by
  cases e : H1 it with
  | none => rfl
  | some u =>
    rcases ht it (by rw [e]; exact fun z => nomatch z) with z | ⟨xs, z⟩
    · exact absurd (Nat.lt_of_lt_of_le z hN) (Nat.lt_irrefl _)
    · obtain ⟨_, its, _, o, ho, hc, _⟩ := I.hok it _ z
      obtain ⟨o2, ho2, hc2, _⟩ := y
      rw [ho] at ho2
      cases ho2
      rw [hc] at hc2
      exact absurd hc2 (by decide)
theorem fst_turn {X : Cx} {pins : List (Addr × Obj)} {σ : L2.St} {H : Hp} {s : Shared} {a : Addr} {g : Nat} (I0 : Inv X pins σ H s) {it R : Addr} {items : Array Value} (hN : s.heap.objs.size ≤ it) (s1 : Shared) (h' : Heap) (tk : Nat) (j : Nat) (l : LSt it R items j s1.heap)
    (f : fstX X pins σ H s a g s1) (k : ∀ b o, b ≠ it → s1.heap.get? b = some o → h'.get? b = some o) : fstX X pins σ H s a g { s1 with heap := h', toks := tk } := by
  obtain ⟨H1, I1, sm, ht, hg⟩ := f
  have hn := it_none I1 hN l.1 ht
  obtain ⟨f0, f1, f2, f3, f4, f5⟩ := I0.fpOk hN hn
  exact ⟨H1, I1.turned (t' := tk) k f0 f1 f3 f4 f5, sm, ht, gen_keep hg l.1 k⟩
theorem obj_low {P : Program} {w : World} {H H5 H1 : Hp} {h h5 : Heap} {a : Addr} (k1 : ∀ b o, H b = some o → H1 b = some o) (k2 : ∀ b xs, H5 b = some (.tup xs) → H1 b = some (.tup xs)) : ∀ u, ObjOk P w H5 h5 a u → ObjOk P w H h a u → ObjOk P w H1 h5 a u
  | .lst xs, x, _ => x
  | .tup xs, x, _ => x
  | .dK kvs, x, _ => x
  | .dT kvs, x, y => by
    obtain ⟨x1, x2, xs, x3, x4⟩ := x
    refine ⟨x1, x2, xs, ?_, x4⟩
    clear x4 x1 x2 y
    induction x3 with
    | nil => exact .nil
    | cons r t ih => exact .cons ⟨r.1, k2 _ _ r.2.1, r.2.2⟩ ih
  | .set S n, x, _ => x
  | .ins C dx fs, x, y => ⟨k1 _ _ y.1, x.2⟩
  | .own q, x, _ => x
  | .xd fs, x, _ => x
  | .met f q, x, _ => x
  | .rng lo hi, x, _ => x
  | .frz o u, x, y => ⟨x.1, obj_low k1 k2 u x.2 y.2⟩
  | .tbl ps, x, _ => x
  | .ext φ, x, _ => x
noncomputable def lowH (H H5 : Hp) : Hp := fun b => match H b with
  | some o => some o
  | none => match H5 b with
    | some (.tup xs) => some (.tup xs)
    | _ => none
theorem lowH_some {H H5 : Hp} {b : Addr} {o : HO} (h : H b = some o) : lowH H H5 b = some o := by unfold lowH; rw [h]
theorem lowH_cases {H H5 : Hp} {b : Addr} {o : HO} (h : lowH H H5 b = some o) : H b = some o ∨ (H b = none ∧ H5 b = some o ∧ ∃ xs, o = .tup xs) := by
  unfold lowH at h
  cases e : H b with
  | some u => rw [e] at h; exact .inl h
  | none =>
    rw [e] at h
    dsimp only at h
    right
    refine ⟨rfl, ?_⟩
    cases e5 : H5 b with
    | none => rw [e5] at h; cases h
    | some u =>
      rw [e5] at h
      cases u with
      | tup xs => cases h; exact ⟨rfl, xs, rfl⟩
      | _ => cases h
/-- from the callee's state back to the caller's -/
theorem fst_of {X Xg : Cx} {pins pg : List (Addr × Obj)} {σ σg : L2.St} {H H5 : Hp} {s s5 : Shared} {a : Addr} {g : Nat} (I : Inv X pins σ H s) (I5 : Inv Xg pg σg H5 s5) (hp : Xg.prog = X.prog) (hw : Xg.w = X.w) (hs : Xg.s_0 = s) (hH : Xg.H_0 = H) (hf : Xg.outer = X.stack) (hx : Xg.ex = []) (sm : Same H H5) (hg : s5.heap.IsGen a g) :
    fstX X pins σ H s a g s5 := by
  have un := I5.base
  have hok := I5.hok
  rw [show Xg.fs = frs X.stack by rw [← hf], hx, hH, hs] at un
  rw [hp, hw] at hok
  have gone : ∀ b o, s.heap.get? b = some o → H b = none → H5 b = none := fun b o e n => un.free b o e n (by simp)
  have k1 : ∀ b o, H b = some o → lowH H H5 b = some o := fun b o e => lowH_some e
  have k2 : ∀ b xs, H5 b = some (.tup xs) → lowH H H5 b = some (.tup xs) := fun b xs e => by
    cases q : H b with
    | none => unfold lowH; rw [q]; dsimp only; rw [e]
    | some u =>
      have := sm b u q
      rw [e] at this
      cases this
      exact lowH_some q
  have un1 : Un (frs X.stack) [] H (lowH H H5) s.heap s5.heap := by
    refine ⟨un.keep, un.slot, fun b o e n _ => ?_, un.there, fun b xs e => k1 b _ e, fun b o u e => k1 b _ e, fun b ps e => ⟨#[], by rw [k1 b _ e]; simp⟩⟩
    have z := gone b o e n
    unfold lowH
    rw [n]
    dsimp only
    rw [z]
  have hok1 : HOk X.prog X.w (lowH H H5) s5.heap := fun b u e => by
    rcases lowH_cases e with q | ⟨_, q, xs, rfl⟩
    · exact obj_low k1 k2 u (hok b u (sm b u q)) (I.hok b u q)
    · exact hok b _ q
  refine ⟨lowH H H5, I.call' (ch := []) (by rw [I5.os, hs]) un1 hok1 I5.bare (fun b z => by cases z), k1, fun b hb => ?_, hg⟩
  cases e : lowH H H5 b with
  | none => exact absurd e hb
  | some u =>
    rcases lowH_cases e with q | ⟨_, _, xs, rfl⟩
    · exact .inl ((I.hok b u q).lt)
    · exact .inr ⟨xs, rfl⟩
end DL

set_option autoImplicit false
namespace DL
open PySem PySem.Spec
open PyProof.Rows hiding St
open L2 GenW
def GMW (X : Cx) (pins : List (Addr × Obj)) (σ : L2.St) (H : Hp) (s : Shared) (RP : Addr → Prop) (ys : List V) (u : Value) (s' : Shared) : Prop :=
  ∃ (a : Addr) (g : Nat) (c : Code), u = .ref a ∧ s.heap.objs.size ≤ a ∧ s'.heap.IsGen a g ∧ s'.gens[g]? = some (.fresh c) ∧ s'.os = s.os ∧ AllBare s'.gens ∧ s'.heap.NoLimit ∧
    ∀ s2 : Shared, (∀ b o, s'.heap.get? b = some o → s2.heap.get? b = some o) → s2.os = s.os → AllBare s2.gens →
      Seg (model X.prog X.w) X.A.in1 (RW ys.length s.heap.objs.size (fstX X pins σ H s a g)) (YW ys.length s.heap.objs.size RP ys (fstX X pins σ H s a g)) ys.length s2 c ((model X.prog X.w).den c) [] s2
theorem gen_call {x : Str} {st : Stmt} {f : Addr} {fd : FuncData} {N ps : List Str} {k n tot : Nat} {st1 st2 : Stmt} {e : Expr} {yp ypos : Pos} {F1 F2 : Rho → Option Out} {gy : Rho → Option D} {X : Cx} {pins : List (Addr × Obj)} {σ : L2.St} {H : Hp} {s : Shared} {us : List Value} {vs : List V} {ds : List D} {O : Addr → Prop} {rows : List Int} {ρ1 ρ2 : Rho}
    (F : L2.Fun X.K x x st f fd) (S : GScope N ps (defScope st)) (bi : Binds X.K fd ps []) (hB : defBody st = [st1, st2, .Expr (.YieldFrom e yp) ypos]) (hN : N.length = tot) (hn : ps.length = n)
    (h1 : ∀ (B : Base) (cdv : Value) (A : Around) (outer : List PySem.Env) (s : Shared) (H : Hp) (E : XK), Room k (A.deeper (envOfC x (defScope st) s.heap.objs.size f cdv)) → DS (cxOf CX0 X.prog X.w X.K X.mg X.base N x (defScope st) f cdv A outer s H E).nox B st1 F1)
    (h2 : ∀ (B : Base) (cdv : Value) (A : Around) (outer : List PySem.Env) (s : Shared) (H : Hp) (E : XK), Room k (A.deeper (envOfC x (defScope st) s.heap.objs.size f cdv)) → DS (cxOf CX0 X.prog X.w X.K X.mg X.base N x (defScope st) f cdv A outer s H E).nox B st2 F2)
    (h3 : ∀ (B : Base) (cdv : Value) (A : Around) (outer : List PySem.Env) (s : Shared) (H : Hp) (E : XK), Room k (A.deeper (envOfC x (defScope st) s.heap.objs.size f cdv)) → DP (cxOf CX0 X.prog X.w X.K X.mg X.base N x (defScope st) f cdv A outer s H E).nox B .bas e gy)
    (I : Inv X pins σ H s) (hr : Room (k + 2) X.A) (r : Vals vs us) (t : Otr O H) (rr : RepL O H ds vs) (hl : ds.length = n) (htot : n ≤ tot) (e1 : F1 (startR tot ds) = some (.nx ρ1)) (e2 : F2 ρ1 = some (.nx ρ2)) (e3 : gy ρ2 = some (.list (intsD rows))) :
    wpAny (model X.prog X.w) X.A (call (.ref f) us) (fun u s' => GMW X pins σ H s (fun R => R ≠ X.env.locals ∧ ¬ O R) (rows.map V.int) u s') X.xe s := by
  obtain ⟨⟨oc, od, kV, doc, pm, an, cdv, ct, osl, rfl, lk, hcd⟩, kp⟩ := F
  have hvl : vs.length = ps.length := by rw [← rr.length, hl, hn]
  have hul : us.length = ps.length := by rw [← r.length]; exact hvl
  have e0 := I.env0
  have KX : X.K.In s.heap := I.kIn
  have lim : s.heap.NoLimit := I.nolimit
  have hkind : ∀ y ∈ ps.zip us, (defScope st).names.lookup y.1 = some .local ∨ ((defScope st).names.lookup y.1 = some .cell ∧ ((cellsFrom (s.heap.objs.size + 1) (defScope st).names []).lookup y.1).isSome = true) := fun ⟨n, v⟩ hy => by
    rcases S.par n (List.of_mem_zip hy).1 with q | q
    · exact .inl q
    · exact .inr ⟨q, PySem.W.cellsFrom_some _ _ _ (.inl q)⟩
  have hb := bi s us KX (by rw [List.append_nil]; exact hul)
  rw [List.append_nil] at hb
  have run : codeAny (model X.prog X.w) X.A (.call (.ref f) ⟨us, []⟩) (fun r s' => match r with | .ok (.ret u) => GMW X pins σ H s (fun R => R ≠ X.env.locals ∧ ¬ O R) (rows.map V.int) u s' | _ => False) s := by
    refine codeAny_call_generator (hr.mono (by omega : 0 ≤ k + 2)).depth (KX _ _ lk) rfl S.co S.gen rfl (PySem.W.codeRec_of KX hcd) (hb _ _ _ _ ?_)
    refine wpAny_newFunctionEnv_cells S.kind hkind fun env he s1 z => ?_
    subst he
    have lim1 : s1.heap.NoLimit := lim.keeps z.toInCall.keep
    refine ⟨lim1, ?_⟩
    obtain ⟨h1', tk, es1, hk1⟩ := z.done
    have os1 : s1.os = s.os := by rw [es1]
    have gen1 : s1.gens = s.gens := by rw [es1]
    have lt1 : s.heap.objs.size < s1.heap.objs.size := z.toInCall.ns.lt
    have sz1 : s.heap.objs.size ≤ s1.heap.objs.size := Nat.le_of_lt lt1
    have kp1 : ∀ b o, s.heap.get? b = some o → s1.heap.get? b = some o := z.toInCall.keep
    have main : ∀ (go : Obj) (nm qn : Value) (tk2 : Nat), go.cls = .type "generator" → go.data = .fields #[.int s1.gens.size 0, nm, qn] → go.slots = #[] → (∀ h : Heap, (h.push go).get? h.objs.size = some go) →
        GMW X pins σ H s (fun R => R ≠ X.env.locals ∧ ¬ O R) (rows.map V.int) (.ref s1.heap.objs.size) { s1 with gens := s1.gens.push (.fresh (.func (defBody st) (envOfC x (defScope st) s.heap.objs.size f cdv))), toks := tk2, heap := s1.heap.push go } := by
      intro go nm qn tk2 hgc hgd0 hgs hgp
      have hgen : ∀ h : Heap, h.get? s1.heap.objs.size = some go → h.IsGen s1.heap.objs.size s1.gens.size := fun h e => ⟨go, nm, qn, e, hgc, hgd0, hgs⟩
      have hpushed : (s1.heap.push go).get? s1.heap.objs.size = some go := hgp _
      refine ⟨s1.heap.objs.size, s1.gens.size, _, rfl, sz1, hgen _ hpushed, Array.getElem?_push_size .., os1, AllBare.push (by rw [gen1]; exact e0.bare) rfl, lim1.keeps fun b o e => Heap.get?_push_of_some _ e, ?_⟩
      intro s2 hk2 hos hba
      have e0w : Env0 X.prog X.w X.K X.mg X.base X.A.in1 X.stack s H := ⟨e0.frames, e0.mod, e0.bs, e0.bsz, e0.funs, e0.frf, e0.hok, e0.bare⟩
      have I1 : Inv (gcxOf X.prog X.w X.K X.mg X.base N x (defScope st) f cdv X.A.in1 X.stack s H (fun _ _ _ => False) []) [] (start N vs) H s1 := inv_startG S hr.hd e0w hvl r z
      have kp2 : ∀ b o, s1.heap.get? b = some o → s2.heap.get? b = some o := fun b o e => hk2 b o (Heap.get?_push_of_some _ e)
      have I2 : Inv (gcxOf X.prog X.w X.K X.mg X.base N x (defScope st) f cdv X.A.in1 X.stack s H (fun _ _ _ => False) []) [] (start N vs) H s2 :=
        I1.call' (ch := []) (hos.trans os1.symm) (Un.kept kp2) (I1.hok.kept kp2) hba fun b z => by simp at z
      have hea : s2.heap.get? s1.heap.objs.size = some go := hk2 s1.heap.objs.size go hpushed
      have hgd : ∀ v, go.data ≠ .cell v := fun v q => by rw [hgd0] at q; cases q
      have Ip : Inv (gcxOf X.prog X.w X.K X.mg X.base N x (defScope st) f cdv X.A.in1 X.stack s H (fun _ _ _ => False) []) [(s1.heap.objs.size, go)] (start N vs) H s2 := by
        refine Inv.pinnedG (pn := []) I2 fun p hp => ?_
        have hp' : p = (s1.heap.objs.size, go) := by simpa using hp
        subst hp'
        exact ⟨hea, I1.hok.fresh (Nat.le_refl _), Nat.ne_of_gt lt1, I1.nofs (Nat.le_refl _), hgd⟩
      have I3 : Inv (cxOf CX0 X.prog X.w X.K X.mg X.base N x (defScope st) f cdv X.A.in1 X.stack s H (fun _ _ _ => False)).nox [(s1.heap.objs.size, go)] (start N vs) H s2 := Ip.wish _
      have hrd : Room k (X.A.in1.deeper (envOfC x (defScope st) s.heap.objs.size f cdv)) := (hr.in1).deeper _
      refine seg_func ?_
      rw [hB]
      have d1 := (h1 ⟨H, O, fun _ => False⟩ cdv X.A.in1 X.stack s H (fun _ _ _ => False) hrd).ps
      have d2 := (h2 ⟨H, O, fun _ => False⟩ cdv X.A.in1 X.stack s H (fun _ _ _ => False) hrd).ps
      have d3 := (h3 ⟨H, O, fun _ => False⟩ cdv X.A.in1 X.stack s H (fun _ _ _ => False) hrd).pe
      refine seg_execs_cons (seg_wrap ?_)
      rw [over_func]
      refine wpAny_mono (d1.run [(s1.heap.objs.size, go)] s2 (start N vs) H { nx := fun σ' H' => ∃ O', Good ⟨H, O, fun _ => False⟩ O' σ' H' ρ1, rt := fun _ _ => False } I3 ⟨O, startR tot ds, .nx ρ1, good_start t rr hN (by omega), e1, fun σ' H' O' _ g => ⟨O', g⟩⟩) (fun fl s3 hs => ?_) fun x s' hx => hx.elim
      cases fl with
      | brk => obtain ⟨_, _, _, q⟩ := hs; exact q.elim
      | cont => obtain ⟨_, _, _, q⟩ := hs; exact q.elim
      | ret u => obtain ⟨_, _, _, _, _, q⟩ := hs; exact q.elim
      | next =>
      obtain ⟨σ3, H3, J3, O3, g3⟩ := hs
      dsimp only
      refine seg_execs_cons (seg_wrap ?_)
      rw [over_func]
      refine wpAny_mono (d2.run [(s1.heap.objs.size, go)] s3 σ3 H3 { nx := fun σ' H' => ∃ O', Good ⟨H, O, fun _ => False⟩ O' σ' H' ρ2, rt := fun _ _ => False } J3 ⟨O3, ρ1, .nx ρ2, g3, e2, fun σ' H' O' _ g => ⟨O', g⟩⟩) (fun fl s4 hs => ?_) fun x s' hx => hx.elim
      cases fl with
      | brk => obtain ⟨_, _, _, q⟩ := hs; exact q.elim
      | cont => obtain ⟨_, _, _, q⟩ := hs; exact q.elim
      | ret u => obtain ⟨_, _, _, _, _, q⟩ := hs; exact q.elim
      | next =>
      obtain ⟨σ4, H4, J4, O4, g4⟩ := hs
      dsimp only
      refine seg_execs_cons ?_
      have hi : interactive (envOfC x (defScope st) s.heap.objs.size f cdv) = false := J4.quiet
      rw [exec_Expr _ _ ypos hi rfl]
      refine seg_at ?_
      refine segw_bind2 ?_
      rw [over_func]
      refine wpAny_mono (d3.run [(s1.heap.objs.size, go)] s4 σ4 H4 (fun v H5 => Same H4 H5 ∧ Rep O H5 (.list (intsD rows)) v) J4 ⟨O4, ρ2, _, g4, e3, fun v H5 sm rp => ⟨sm, rp⟩⟩) (fun v s5 hv => ?_) fun x s' hx => hx.elim
      obtain ⟨vv, H5, J5, rv, sm5, rp⟩ := hv
      simp only [Rep] at rp
      obtain ⟨R, ws, rfl, nO, hR, rw5⟩ := rp
      have ews := ints_rep rw5 (intsOf_intsD rows)
      subst ews
      obtain rfl : v = Value.ref R := rv
      obtain ⟨hlen, its, cn, rits, eR⟩ := J5.hok R _ hR
      have isL : s5.heap.IsList R its.toArray := ⟨_, eR, rfl, _, rfl⟩
      have smH : Same H H5 := fun b o e => sm5 b o (g4.frame b o e fun z => z)
      have gone : ∀ b o, s.heap.get? b = some o → H b = none → H5 b = none := fun b o e n => J5.base.free b o e n (fun z => by cases z)
      have hRl : R ≠ X.env.locals := fun z => by
        obtain ⟨_, hns, _⟩ := I.loc
        obtain ⟨oL, _, _, hoL, _⟩ := id hns
        rw [z, gone _ oL hoL I.free] at hR
        cases hR
      have hit : s.heap.objs.size ≤ s5.heap.objs.size := J5.sz
      refine seg_at ?_
      unfold yieldFrom
      refine seg_bind_wrap (wpAny_pure ?_)
      refine seg_bind_wrap (wpAny_typeOf (T := "list") isL.typeIs ?_)
      rw [if_neg (by decide)]
      refine seg_bind_wrap (wpAny_holding ?_)
      rw [over_func]
      refine wpAny_pyIter_list isL ?_
      refine seg_call fun p => ?_
      have J6 : Inv (cxOf CX0 X.prog X.w X.K X.mg X.base N x (defScope st) f cdv X.A.in1 X.stack s H (fun _ _ _ => False)).nox [(s1.heap.objs.size, go)] σ4 H5 { s5 with heap := s5.heap.push { cls := .type "list_iterator", data := .fields #[.ref R, .int 0 0] } } :=
        J5.kept (t' := s5.toks) fun b o e => Heap.get?_push_of_some _ e
      have hga : (s5.heap.push { cls := .type "list_iterator", data := .fields #[.ref R, .int 0 0] }).IsGen s1.heap.objs.size s1.gens.size := hgen _ (J6.pin (s1.heap.objs.size, go) (List.mem_append_right _ (List.mem_singleton.mpr rfl))).1
      refine seg_yfW (it := s5.heap.objs.size) (R := R) (items := its.toArray) (L := (rows.map V.int).length) (N0 := s.heap.objs.size) (ys := rows.map V.int) (fst := fstX X pins σ H s s1.heap.objs.size s1.gens.size) (RP := fun R => R ≠ X.env.locals ∧ ¬ O R)
        hit ⟨hRl, nO⟩ (by rw [List.size_toArray]; exact rits.length.symm) (by simpa using rits) (fun s1 h' tk j l f k => fst_turn I hit s1 h' tk j l f k) ?_ ?_ ?_ ?_ _ 0 s2 _ (Nat.zero_add _) J6.bare (J6.os.trans hos.symm) ?_ ?_
      · show (X.A.in1.over (.func [st1, st2, .Expr (.YieldFrom e yp) ypos] (envOfC x (defScope st) s.heap.objs.size f cdv)) []).handled = none
        rw [over_func]
        exact hr.hd
      · rfl
      · rfl
      · intro n s₀ s' fw
        refine seg_leaf (.ok (.ret .none)) ?_
        change Seg _ _ _ _ n s₀ _ (leafOf (.ok (.ret .none))) [] s'
        exact seg_end (.ok (.ret .none)) (.inl ⟨.inl rfl, fw⟩)
      · rw [if_pos rfl]
        exact fst_of I J6 rfl rfl rfl rfl rfl rfl smH hga
      · exact ⟨⟨_, Heap.get?_push_size _ rfl, rfl, rfl⟩, let ⟨ob, eb, q⟩ := isL; ⟨ob, Heap.get?_push_of_some _ eb, q⟩, Nat.ne_of_gt (Heap.lt_size eR)⟩
    exact main _ _ _ _ rfl rfl rfl fun h => Heap.get?_push_size _ rfl
  refine wpAny_call (codeAny_mono run fun r s' hq => ?_)
  cases r with
  | error e => exact False.elim hq
  | ok fl =>
    cases fl with
    | ret u => exact hq
    | next => exact False.elim hq
    | brk => exact False.elim hq
    | cont => exact False.elim hq
end DL

set_option autoImplicit false
namespace DL
open PySem PySem.Spec
open PyProof.Rows hiding St
open L2 GenW
/-! ## for x in g(..): xs.append(x) -/
section
variable {X : Cx} {pins : List (Addr × Obj)} {σ : L2.St} {H : Hp} {s : Shared} {E : Value → Shared → Prop}
theorem store_exact {i : Nat} {x : Str} {v : V} {u : Value} {Q : Unit → Shared → Prop} (I : Inv X pins σ H s) (hN : X.N.Nodup) (hi : X.N[i]? = some x) (hk : X.env.scope.names.lookup x = some .local) (r : L2.RelV v u)
    (h : ∀ s', s'.gens = s.gens → s'.os = s.os → Inv X pins (σ.set i (some v)) H s' → Heap.SameBut X.env.locals s.heap s'.heap → Q () s') : wpAny (model X.prog X.w) X.A (storeName X.env x u) Q E s := by
  obtain ⟨m, hn, hl⟩ := id I.loc
  have hcls : (X.env.scope.kind == .class || (X.env.scope.kind == .module && X.env.locals != X.env.globals)) = false := by rw [I.ok.kind]; rfl
  have hiσ : i < σ.length := by rw [I.len]; exact (List.getElem?_eq_some_iff.mp hi).1
  have cne := I.cne
  have tracked : ∀ {a : Addr} {h' : Heap}, (∃ o, s.heap.get? a = some o ∧ H a = none) → Heap.SameBut a s.heap h' → HOk X.prog X.w H h' := fun {a h'} ha hs b ob e => by
    obtain ⟨_, _, hfree⟩ := ha
    refine (I.hok b ob e).stay (fun c w' hc q => (hs.2 c ?_).trans q) (fun _ q => q) fun _ _ q => q
    rintro rfl
    rcases hc with rfl | hc
    · rw [hfree] at e; cases e
    · rw [hfree] at hc; cases hc
  refine wpAny_storeName_local hk hn (fun h' hn' hs => ?_) hcls
  obtain ⟨oL, _, _, hoL, _⟩ := id hn
  refine h _ rfl rfl ⟨I.ok, I.os, I.bare, ⟨fun b o e n hb hx => ?_, fun b o e n hb hx => ?_, I.base.free, fun b o e hx => ?_, I.base.tups, I.base.frzs, I.base.tbls⟩, ⟨_, hn', fun j y v' e1 e2 e3 => ?_⟩, fun y c e => ?_, I.free, I.freeC, fun p hp => ?_, tracked ⟨oL, hoL, I.free⟩ hs, by simpa using I.len⟩ hs
  · exact (hs.2 b (Nat.ne_of_lt (Nat.lt_of_lt_of_le (Heap.lt_size e) I.ok.above))).trans (I.base.keep b o e n hb hx)
  · obtain ⟨sl, e1⟩ := I.base.slot b o e n hb hx
    exact ⟨sl, (hs.2 b (Nat.ne_of_lt (Nat.lt_of_lt_of_le (Heap.lt_size e) I.ok.above))).trans e1⟩
  · obtain ⟨o', e1⟩ := I.base.there b o e hx
    exact ⟨o', (hs.2 b (Nat.ne_of_lt (Nat.lt_of_lt_of_le (Heap.lt_size e) I.ok.above))).trans e1⟩
  · by_cases hj : j = i
    · subst hj
      rw [hi] at e1; cases e1
      rw [List.getElem?_set_self hiσ] at e2
      cases e2
      exact ⟨u, r, .inl ⟨hk, by simp⟩⟩
    · rw [List.getElem?_set_ne (Ne.symm hj)] at e2
      obtain ⟨u', r', q⟩ := hl j y v' e1 e2 e3
      refine ⟨u', r', ?_⟩
      rcases q with ⟨k, e⟩ | ⟨k, c, e, z⟩
      · refine .inl ⟨k, ?_⟩
        have : y ≠ x := fun e => hj (nodup_ix hN e1 (e ▸ hi))
        simp [this, e]
      · exact .inr ⟨k, c, e, z.sameBut hs (cne y c e)⟩
  · obtain ⟨w', z⟩ := I.cell y c e
    exact ⟨w', z.sameBut hs (cne y c e)⟩
  · obtain ⟨e, n, ne, nf, d⟩ := I.pin p hp
    exact ⟨(hs.2 p.1 ne).trans e, n, ne, nf, d⟩
theorem name_exact {i : Nat} {x : Str} {v : V} {pos : Pos} {Q : Value → Shared → Prop} (I : Inv X pins σ H s) (hi : X.N[i]? = some x) (hk : X.env.scope.names.lookup x = some .local) (hσ : σ[i]? = some (some v)) (h : ∀ u, L2.RelV v u → Q u s) (hd : (x == ("__debug__" : Str)) = false := by decide) :
    wpAny (model X.prog X.w) X.A (eval (.Name x pos) X.env) Q E s := by
  obtain ⟨m, hn, hl⟩ := I.loc
  obtain ⟨u, r, l⟩ := hl i x v hi hσ (.inl hk)
  rcases l with ⟨hk', hm⟩ | ⟨hk', c, hc, hcell⟩
  · exact wpAny_Name (wpAny_loadName_local I.ok.kind hk' hn hm (h u r)) hd
  · have hk2 : X.env.kindOf x = some .local := hk
    rcases hk' with hk' | hk' <;> rw [hk2] at hk' <;> cases hk'
theorem app_exact {i j : Nat} {x y : Str} {l : Addr} {xs : List V} {w : V} {p4 p5 p6 p7 p8 : Pos} {Q : Flow → Shared → Prop} (I : Inv X pins σ H s) (hi : X.N[i]? = some y) (hky : X.env.scope.names.lookup y = some .local) (hj : X.N[j]? = some x) (hkx : X.env.scope.names.lookup x = some .local)
    (hσi : σ[i]? = some (some (.ref l))) (hσj : σ[j]? = some (some w)) (hH : H l = some (.lst xs)) (hz : xs.length < sizeLine)
    (h : ∀ s', s'.gens = s.gens → s'.os = s.os → Inv X pins σ (upd H l (.lst (xs ++ [w]))) s' → (∀ b o, b ≠ l → s.heap.get? b = some o → s'.heap.get? b = some o) → Q .next s')
    (hdy : (y == ("__debug__" : Str)) = false := by decide) (hdx : (x == ("__debug__" : Str)) = false := by decide)
    (hbase : attributeBase (.Name y p4) "append" X.env (eval (.Name y p4) X.env) = eval (.Name y p4) X.env := by rfl)
    (hfew : ((backTo p7 (starEach [.Name x p6] X.env)).all (fun x => !x.1) && (backToKw p7 (keywordEach [] X.env)).all (fun x => x.1.isSome)
      && decide (([.Name x p6] : List Expr).length + ([] : List Keyword).length + (if ([] : List Keyword).isEmpty then 0 else 1) < 30)) = true := by rfl)
    (hline : (p5.endLine == p7.line) = true := by rfl) (hsw : swapsWith (.Call (.Attribute (.Name y p4) "append" p5) [.Name x p6] [] p7) none p8.line X.env = pure false := by rfl)
    (hst : starEach [.Name x p6] X.env = (false, eval (.Name x p6) X.env) :: starEach [] X.env := by rfl) (hplain : (backTo p7 (starEach ([] : List Expr) X.env)).any (·.1) = false := by rfl) :
    wpAny (model X.prog X.w) X.A (exec (.Expr (.Call (.Attribute (.Name y p4) "append" p5) [.Name x p6] [] p7) p8) X.env) Q E s := by
  refine wpAny_Expr_any ?_ I.quiet hsw
  refine wpAny_Call_method_late hbase hfew hline rfl (name_exact I hi hky hσi (fun u ru => ?_) hdy)
  cases ru
  have ty : tyV X.K "list" (.ref l) H := .inl ⟨rfl, _, .of hH⟩
  obtain ⟨h1, h2⟩ := tyV_is I (show L2.RelV (.ref l) (.ref l) from rfl) ty
  refine ⟨"list", "list.append", PySem.F.plainAttrs_list, PySem.F.slot_list_append, PySem.F.type_list_append, h1, h2, ?_⟩
  rw [hst]
  refine Calls.callWith_builtin (by show (false || (backTo p7 (starEach ([] : List Expr) X.env)).any (·.1)) = false; rw [hplain] <;> rfl) (Calls.evalArgs_plain ?_)
  refine Calls.spliced_cons (name_exact I hj hkx hσj (fun u ru => ?_) hdx)
  refine Calls.spliced_nil ?_
  obtain ⟨z, its, n, r, hl, e⟩ := I.lstM hH
  refine call_meets PySem.F.slot_list_append ⟨_, e, rfl⟩ PySem.F.entry_list_append (PySem.F.args_list_append_2 _ _) (PySem.list_append l its.toArray n u (by rw [List.size_toArray]; omega)) ⟨e, ?_⟩
  refine h _ rfl rfl (I.lset (its' := its ++ [u]) (t' := s.toks) hH e (by simp) (r.append (.cons ru .nil)) ?_) fun b o hb eb => (Heap.get?_update_other _ _ (Ne.symm hb)).trans eb
  rw [List.length_append, List.length_singleton]
  omega
end
end DL

set_option autoImplicit false
namespace DL
open PySem PySem.Spec
open PyProof.Rows hiding St
open L2 GenW
theorem upd_id {H : Hp} {l : Addr} {o : HO} (h : H l = some o) : upd H l o = H := by
  funext b
  by_cases z : b = l
  · subst z; rw [upd_same, h]
  · rw [upd_ne z]
section
variable {X : Cx} {pins : List (Addr × Obj)} {σ : L2.St} {H : Hp} {s s' : Shared}
theorem inv_gens {G : Nat} {gs : GenState} (I : Inv X pins σ H s) (hb : gs.bare = true) : Inv X pins σ H (s.setGen G gs) :=
  ⟨I.ok, I.os, allBare_setGen I.bare hb, I.base, I.loc, I.cell, I.free, I.freeC, I.pin, I.hok, I.len⟩
/-- what stands behind an item put behind the list -/
def Lat (X : Cx) (pins : List (Addr × Obj)) (σ : L2.St) (H : Hp) (s : Shared) (RP : Addr → Prop) (xs ys : List V) (l : Addr) (jx : Nat) (a : Addr) (g : Nat) (m : Nat) (s3 : Shared) : Prop :=
  m < ys.length ∧ ∃ (H1 : Hp) (gs : GenState) (it R : Addr) (items : Array Value), Same H H1 ∧ (∀ b, H1 b ≠ none → b < s.heap.objs.size ∨ ∃ xs, H1 b = some (.tup xs)) ∧
    Inv X pins (σ.set jx ys[ys.length - m - 1]?) (upd H1 l (.lst (xs ++ ys.take (ys.length - m)))) s3 ∧ s3.heap.IsGen a g ∧ s3.gens[g]? = some gs ∧ s.heap.objs.size ≤ it ∧ RP R ∧ LSt it R items (ys.length - m) s3.heap ∧
    ∀ s2, AllBare s2.gens → LSt it R items (ys.length - m) s2.heap → gs.Goes (model X.prog X.w) X.A.in1 (RW ys.length s.heap.objs.size (fstX X pins σ H s a g)) (YW ys.length s.heap.objs.size RP ys (fstX X pins σ H s a g)) m (.send .none) s2
end
section
variable {X : Cx} {pins : List (Addr × Obj)} {σ : L2.St} {H : Hp} {s s' : Shared} {i j : Nat} {x y : Str} {l a : Addr} {g : Nat} {xs ys : List V} {O : Addr → Prop} {px p4 p5 p6 p7 p8 : Pos}
theorem step_item {σ0 : L2.St} {H1 : Hp} {s4 : Shared} {gs : GenState} {it R : Addr} {items : Array Value} {v : Value} {yv : V} {k n : Nat} {E E2 : Value → Shared → Prop} {Q : Flow → Shared → Prop}
    (I0 : Inv X pins σ H s) (hN : X.N.Nodup) (hi : X.N[i]? = some y) (hky : X.env.scope.names.lookup y = some .local) (hj : X.N[j]? = some x) (hkx : X.env.scope.names.lookup x = some .local) (hij : i ≠ j)
    (hσi : σ[i]? = some (some (.ref l))) (hH : H l = some (.lst xs)) (hOl : O l) (hz : xs.length + ys.length ≤ sizeLine) (ha : s.heap.objs.size ≤ a)
    (hσ0 : ∀ v, σ0.set j v = σ.set j v) (hσi0 : σ0[i]? = some (some (.ref l))) (hlen : σ0.length = σ.length) (sm : Same H H1) (ht : ∀ b, H1 b ≠ none → b < s.heap.objs.size ∨ ∃ xs, H1 b = some (.tup xs))
    (hk : k < ys.length) (I4 : Inv X pins σ0 (upd H1 l (.lst (xs ++ ys.take k))) s4) (hg : s4.heap.IsGen a g) (hgs : s4.gens[g]? = some gs) (hit : s.heap.objs.size ≤ it) (hR : R ≠ X.env.locals ∧ ¬ O R) (hst : LSt it R items (k + 1) s4.heap)
    (hgo : ∀ s2, AllBare s2.gens → LSt it R items (k + 1) s2.heap → gs.Goes (model X.prog X.w) X.A.in1 (RW ys.length s.heap.objs.size (fstX X pins σ H s a g)) (YW ys.length s.heap.objs.size (fun R => R ≠ X.env.locals ∧ ¬ O R) ys (fstX X pins σ H s a g)) (ys.length - (k + 1)) (.send .none) s2)
    (hyv : ys[k]? = some yv) (rv : L2.RelV yv v)
    (hQ : ∀ s6, Lat X pins σ H s (fun R => R ≠ X.env.locals ∧ ¬ O R) xs ys l j a g (ys.length - (k + 1)) s6 → Q .next s6)
    (hdy : (y == ("__debug__" : Str)) = false := by decide) (hdx : (x == ("__debug__" : Str)) = false := by decide)
    (hbase : attributeBase (.Name y p4) "append" X.env (eval (.Name y p4) X.env) = eval (.Name y p4) X.env := by rfl)
    (hfew : ((backTo p7 (starEach [.Name x p6] X.env)).all (fun x => !x.1) && (backToKw p7 (keywordEach [] X.env)).all (fun x => x.1.isSome)
      && decide (([.Name x p6] : List Expr).length + ([] : List Keyword).length + (if ([] : List Keyword).isEmpty then 0 else 1) < 30)) = true := by rfl)
    (hline : (p5.endLine == p7.line) = true := by rfl) (hsw : swapsWith (.Call (.Attribute (.Name y p4) "append" p5) [.Name x p6] [] p7) none p8.line X.env = pure false := by rfl)
    (hsa : starEach [.Name x p6] X.env = (false, eval (.Name x p6) X.env) :: starEach [] X.env := by rfl) (hplain : (backTo p7 (starEach ([] : List Expr) X.env)).any (·.1) = false := by rfl) :
    wpAny (model X.prog X.w) X.A (assign (.Name x px) X.env v) (fun _ s5 => wpAny (model X.prog X.w) X.A (execs [.Expr (.Call (.Attribute (.Name y p4) "append" p5) [.Name x p6] [] p7) p8] X.env) Q E2 s5) E s4 := by
  have hll : l < s.heap.objs.size := (I0.hok l _ hH).lt
  have hloc : X.env.locals < s.heap.objs.size := I0.lt
  have hjσ : j < σ0.length := by rw [hlen, I0.len]; exact (List.getElem?_eq_some_iff.mp hj).1
  refine wpAny_assign_Name (store_exact I4 hN hj hkx rv fun s5 g5 o5 I5 sb5 => ?_)
  refine wpAny_execs_cons (app_exact I5 hi hky hj hkx (by rw [List.getElem?_set_ne (Ne.symm hij)]; exact hσi0) (by rw [List.getElem?_set_self hjσ]) upd_same ?_ (fun s6 g6 o6 I6 kp6 => ?_) hdy hdx hbase hfew hline hsw hsa hplain)
  · rw [List.length_append, List.length_take]; omega
  refine wpAny_execs_nil (hQ s6 ⟨by omega, H1, gs, it, R, items, sm, ht, ?_, ?_, by rw [g6, g5]; exact hgs, hit, hR, ?_, ?_⟩)
  · have e1 : ys.length - (ys.length - (k + 1)) - 1 = k := by omega
    have e2 : ys.length - (ys.length - (k + 1)) = k + 1 := by omega
    rw [e1, e2, hyv, ← hσ0]
    rw [upd_upd, List.append_assoc] at I6
    rw [List.take_add_one, hyv]
    exact I6
  · obtain ⟨o, nm, qn, ho, r⟩ := hg
    refine ⟨o, nm, qn, kp6 a o (fun z => ?_) ((sb5.2 a (fun z => ?_)).trans ho), r⟩
    · exact absurd (Nat.lt_of_lt_of_le (z ▸ hll : a < _) ha) (Nat.lt_irrefl _)
    · exact absurd (Nat.lt_of_lt_of_le (z ▸ hloc : a < _) ha) (Nat.lt_irrefl _)
  · have e2 : ys.length - (ys.length - (k + 1)) = k + 1 := by omega
    rw [e2]
    refine hst.keep fun b o hb eb => ?_
    refine kp6 b o ?_ ((sb5.2 b ?_).trans eb)
    · rcases hb with rfl | rfl
      · exact fun z => absurd (Nat.lt_of_lt_of_le (z ▸ hll : b < _) hit) (Nat.lt_irrefl _)
      · exact fun z => hR.2 (z ▸ hOl)
    · rcases hb with rfl | rfl
      · exact fun z => absurd (Nat.lt_of_lt_of_le (z ▸ hloc : b < _) hit) (Nat.lt_irrefl _)
      · exact hR.1
  · have e2 : ys.length - (ys.length - (k + 1)) = k + 1 := by omega
    rw [e2]
    exact hgo
end
end DL

set_option autoImplicit false
namespace DL
open PySem PySem.Spec
open PyProof.Rows hiding St
open L2 GenW
theorem inv_as {X : Cx} {pins : List (Addr × Obj)} {σ : L2.St} {H : Hp} {s1 s2 : Shared} (J : Inv X pins σ H s2) (hh : s1.heap = s2.heap) (ho : s1.os = s2.os) (hb : AllBare s1.gens) : Inv X pins σ H s1 :=
  ⟨J.ok, ho.trans J.os, hb, by rw [hh]; exact J.base, by rw [hh]; exact J.loc, by rw [hh]; exact J.cell, J.free, J.freeC, by rw [hh]; exact J.pin, by rw [hh]; exact J.hok, J.len⟩
theorem mt0 : ∀ (n : Nat) (P : Nat → Prop), (match n with | 0 => False | m + 1 => P m) → P (n - 1)
  | 0, _, h => h.elim
  | n + 1, _, h => h
def lastσ (σ : L2.St) (j : Nat) (ys : List V) : L2.St := match ys.length with
  | 0 => σ
  | n + 1 => σ.set j ys[n]?
section
variable {X : Cx} {pins : List (Addr × Obj)} {σ : L2.St} {H : Hp} {s s' : Shared} {i j : Nat} {x y : Str} {l : Addr} {xs ys : List V} {O : Addr → Prop} {px p4 p5 p6 p7 p8 : Pos} {u : Value}
theorem gen_loop {k : Nat} {E : Value → Shared → Prop} {Qf : Flow → Shared → Prop}
    (I0 : Inv X pins σ H s) (hc : X.calm = true) (hr : Room k X.A) (G : GMW X pins σ H s (fun R => R ≠ X.env.locals ∧ ¬ O R) ys u s')
    (hN : X.N.Nodup) (hi : X.N[i]? = some y) (hky : X.env.scope.names.lookup y = some .local) (hj : X.N[j]? = some x) (hkx : X.env.scope.names.lookup x = some .local) (hij : i ≠ j)
    (hσi : σ[i]? = some (some (.ref l))) (hH : H l = some (.lst xs)) (hOl : O l) (hz : xs.length + ys.length ≤ sizeLine)
    (hD : ∀ s9 H1, Same H H1 → Inv X pins (lastσ σ j ys) (upd H1 l (.lst (xs ++ ys))) s9 → Qf .next s9)
    (hdy : (y == ("__debug__" : Str)) = false := by decide) (hdx : (x == ("__debug__" : Str)) = false := by decide)
    (hbase : attributeBase (.Name y p4) "append" X.env (eval (.Name y p4) X.env) = eval (.Name y p4) X.env := by rfl)
    (hfew : ((backTo p7 (starEach [.Name x p6] X.env)).all (fun x => !x.1) && (backToKw p7 (keywordEach [] X.env)).all (fun x => x.1.isSome)
      && decide (([.Name x p6] : List Expr).length + ([] : List Keyword).length + (if ([] : List Keyword).isEmpty then 0 else 1) < 30)) = true := by rfl)
    (hline : (p5.endLine == p7.line) = true := by rfl) (hsw : swapsWith (.Call (.Attribute (.Name y p4) "append" p5) [.Name x p6] [] p7) none p8.line X.env = pure false := by rfl)
    (hsa : starEach [.Name x p6] X.env = (false, eval (.Name x p6) X.env) :: starEach [] X.env := by rfl) (hplain : (backTo p7 (starEach ([] : List Expr) X.env)).any (·.1) = false := by rfl) :
    codeAny (model X.prog X.w) X.A (.forLoop (.Name x px) u [.Expr (.Call (.Attribute (.Name y p4) "append" p5) [.Name x p6] [] p7) p8] [] X.env) (fun r s' => match r with | .ok f => Qf f s' | .error e => E e s') s' := by
  obtain ⟨a, g, c, rfl, ha, hg, hgs, hos, hbare, hlim, wake⟩ := G
  have hh : X.A.handled = none := I0.ok.hd hc
  have hll : l < s.heap.objs.size := (I0.hok l _ hH).lt
  have hdep : X.A.depth < recursionLimit := hr.depth
  refine codeAny_forLoop (fun m s3 => (m = ys.length ∧ s3 = s') ∨ Lat X pins σ H s (fun R => R ≠ X.env.locals ∧ ¬ O R) xs ys l j a g m s3) ?_ ys.length (.inl ⟨rfl, rfl⟩)
  intro m s3 h3
  rcases h3 with ⟨em, es⟩ | hlat
  · subst em
    subst es
    have hgl : g < s3.gens.size := (Array.getElem?_eq_some_iff.mp hgs).1
    refine wpAny_gsz (n := g + 1) hgl (next_genG (F := FW ys.length s.heap.objs.size (fstX X pins σ H s a g)) (Er := fun _ _ => False) (A := X.A) hh hlim hdep hg hgs ⟨rfl, wake (s3.setGen g .running) (fun b o e => e) hos (allBare_setGen hbare rfl)⟩ (fun v s₁ gs' hb hv hsz => ?_) (fun s₁ hp h' hk hsz => ?_) fun e s₁ he => he.elim)
    · obtain ⟨hb1, hos1, it, R, items, hit, hRP, hv, hx, hle, hst, hf, hcont⟩ := hv
      have hL : 1 ≤ ys.length := by omega
      rw [if_pos (by omega)] at hf
      obtain ⟨H1, I1, sm, ht, hgen⟩ := hf
      have e1 : ys.length - (ys.length - 1) = 0 + 1 := by omega
      have e2 : ys.length - (ys.length - 1 + 1) = 0 := by omega
      rw [e1] at hst
      rw [e2] at hx
      obtain ⟨yv, hyv⟩ : ∃ yv, ys[0]? = some yv := ⟨ys[0], List.getElem?_eq_getElem (by omega)⟩
      obtain ⟨uu, hu, ru⟩ := hv.get hyv
      have euv : uu = v := by
        rw [Array.getElem?_toList] at hu
        rw [hx] at hu
        cases hu
        rfl
      subst euv
      have hH1 : H1 l = some (.lst xs) := sm l _ hH
      have hszg : g < s₁.gens.size := by
        have q : (s₁.setGen g gs').gens.size = s₁.gens.size := setGen_size _ _ _
        have hsz' : g + 1 ≤ (s₁.setGen g gs').gens.size := hsz
        omega
      refine step_item (n := 0) (σ0 := σ) (k := 0) I0 hN hi hky hj hkx hij hσi hH hOl hz ha (fun _ => rfl) hσi rfl sm ht (by omega) (s4 := s₁.setGen g gs') (by rw [List.take_zero, List.append_nil, upd_id hH1]; exact inv_gens I1 hb) hgen (setGen_at hszg) hit hRP hst (fun s2 hb2 l2 => ?_) hyv ru (fun s6 lat => ?_) hdy hdx hbase hfew hline hsw hsa hplain
      · have q := hcont s2 hb2 (by rw [e1]; exact l2)
        exact mt0 ys.length (fun m => gs'.Goes (model X.prog X.w) X.A.in1 (RW ys.length s.heap.objs.size (fstX X pins σ H s a g)) (YW ys.length s.heap.objs.size (fun R => R ≠ X.env.locals ∧ ¬ O R) ys (fstX X pins σ H s a g)) m (.send .none) s2) q
      · exact ⟨ys.length - (0 + 1), by omega, .inr lat⟩
    · obtain ⟨h0, hb1, hos1, hf⟩ := hp
      rw [if_pos h0] at hf
      obtain ⟨H1, I1, sm, ht, hgen⟩ := hf
      have hH1 : H1 l = some (.lst xs) := sm l _ hH
      have hys : ys = [] := List.length_eq_zero_iff.mp h0
      refine wpAny_execs_nil (hD _ H1 sm ?_)
      rw [hys, List.append_nil, upd_id hH1]
      show Inv X pins σ H1 _
      exact (inv_gens (G := g) (gs := .finished) I1 rfl).kept (t' := s₁.toks) hk
  · obtain ⟨hm, H1, gs, it, R, items, sm, ht, I3, hg3, hgs3, hit, hRP, hst, hgo⟩ := hlat
    have hgl : g < s3.gens.size := (Array.getElem?_eq_some_iff.mp hgs3).1
    have ht3 : ∀ b, upd H1 l (.lst (xs ++ ys.take (ys.length - m))) b ≠ none → b < s.heap.objs.size ∨ ∃ zs, upd H1 l (.lst (xs ++ ys.take (ys.length - m))) b = some (.tup zs) := fun b hb => by
      by_cases z : b = l
      · subst z; exact .inl hll
      · rw [upd_ne z] at hb ⊢
        exact ht b hb
    have back : ∀ (it' : Addr) (s₁ : Shared), s.heap.objs.size ≤ it' → KpB it' (s3.setGen g .running) s₁ → s₁.os = (s3.setGen g .running).os → AllBare s₁.gens → Inv X pins (σ.set j ys[ys.length - m - 1]?) (upd H1 l (.lst (xs ++ ys.take (ys.length - m)))) s₁ ∧ s₁.heap.IsGen a g := fun it' s₁ hit' hk ho hb => by
      obtain ⟨⟨R', i', hli⟩, hk⟩ := hk
      have hn := it_none (s := s) I3 hit' hli ht3
      obtain ⟨f0, f1, f2, f3, f4, f5⟩ := I0.fpOk hit' hn
      have J := I3.turned (t' := s3.toks) (h' := s₁.heap) hk f0 f1 f3 f4 f5
      exact ⟨inv_as J rfl ho hb, gen_keep hg3 hli hk⟩
    refine wpAny_gsz (n := g + 1) hgl (next_genG (F := FW ys.length s.heap.objs.size (fstX X pins σ H s a g)) (Er := fun _ _ => False) (A := X.A) hh I3.nolimit hdep hg3 hgs3 (hgo (s3.setGen g .running) (allBare_setGen I3.bare rfl) hst) (fun v s₁ gs' hb hv hsz => ?_) (fun s₁ hp h' hk hsz => ?_) fun e s₁ he => he.elim)
    · obtain ⟨hb1, hos1, it', R', items', hit', hRP', hv, hx, hle, hst', hf, hcont⟩ := hv
      cases m with
      | zero => exact (hcont s₁ hb1 hst').elim
      | succ m =>
        rw [Nat.add_sub_cancel] at hx hle hst' hf hcont
        rw [if_neg (by omega)] at hf
        obtain ⟨J, hg1⟩ := back it' s₁ hit' hf hos1 hb1
        have e1 : ys.length - m = ys.length - (m + 1) + 1 := by omega
        obtain ⟨yv, hyv⟩ : ∃ yv, ys[ys.length - (m + 1)]? = some yv := ⟨ys[ys.length - (m + 1)], List.getElem?_eq_getElem (by omega)⟩
        obtain ⟨uu, hu, ru⟩ := hv.get hyv
        have euv : uu = v := by
          rw [Array.getElem?_toList] at hu
          rw [hx] at hu
          cases hu
          rfl
        subst euv
        have hszg : g < s₁.gens.size := by
          have q : (s₁.setGen g gs').gens.size = s₁.gens.size := setGen_size _ _ _
          have hsz' : g + 1 ≤ (s₁.setGen g gs').gens.size := hsz
          omega
        have e3 : ys.length - (ys.length - (m + 1) + 1) = m := by omega
        refine step_item (n := 0) (σ0 := σ.set j ys[ys.length - (m + 1) - 1]?) (k := ys.length - (m + 1)) I0 hN hi hky hj hkx hij hσi hH hOl hz ha (fun _ => by simp) (by rw [List.getElem?_set_ne (Ne.symm hij)]; exact hσi) (by simp) sm ht (by omega) (s4 := s₁.setGen g gs') (inv_gens J hb) hg1 (setGen_at hszg) hit' hRP' (by rw [← e1]; exact hst') (fun s2 hb2 l2 => ?_) hyv ru (fun s6 lat => ?_) hdy hdx hbase hfew hline hsw hsa hplain
        · rw [e3]
          exact hcont s2 hb2 (by rw [e1]; exact l2)
        · rw [e3] at lat
          exact ⟨m, by omega, .inr lat⟩
    · obtain ⟨h0, hb1, hos1, hf⟩ := hp
      rw [if_neg (by omega)] at hf
      obtain ⟨it', hit', hf⟩ := hf
      obtain ⟨J, hg1⟩ := back it' s₁ hit' hf hos1 hb1
      subst h0
      obtain ⟨n, hn⟩ : ∃ n, ys.length = n + 1 := ⟨ys.length - 1, by omega⟩
      refine wpAny_execs_nil (hD _ H1 sm ?_)
      have el : lastσ σ j ys = σ.set j ys[ys.length - 0 - 1]? := by
        unfold lastσ
        rw [hn]
        simp
      rw [el, show ys = ys.take (ys.length - 0) by simp]
      have J2 := (inv_gens (G := g) (gs := .finished) J rfl).kept (t' := (s₁.setGen g .finished).toks) hk
      simpa using J2
end
end DL

set_option autoImplicit false
namespace DL
open PySem PySem.Spec
open PyProof.Rows hiding St
open L2 GenW
/-! ## generator defs as data -/
@[simp] def genF (n tot : Nat) (F1 F2 : Rho → Option Out) (gy : Rho → Option D) : List D → Option (List Int) := fun ds => if ds.length = n then (F1 (startR tot ds)).bind fun o => (match o with
  | .nx ρ1 => (F2 ρ1).bind fun o2 => (match o2 with
    | .nx ρ2 => (gy ρ2).bind fun d => (match d with
      | .list es => if es.length ≤ 100000 then intsOf es else none
      | _ => none)
    | .rt _ _ => none)
  | .rt _ _ => none) else none
theorem genF_some {n tot : Nat} {F1 F2 : Rho → Option Out} {gy : Rho → Option D} {ds : List D} {rows : List Int} (h : genF n tot F1 F2 gy ds = some rows) : ds.length = n ∧ rows.length ≤ 100000 ∧ ∃ ρ1 ρ2, F1 (startR tot ds) = some (.nx ρ1) ∧ F2 ρ1 = some (.nx ρ2) ∧ gy ρ2 = some (.list (intsD rows)) := by
  unfold genF at h
  split at h
  · next hl =>
    obtain ⟨o, e1, h⟩ := bind_some h
    cases o with
    | rt d ρ => cases h
    | nx ρ1 =>
      obtain ⟨o2, e2, h⟩ := bind_some h
      cases o2 with
      | rt d ρ => cases h
      | nx ρ2 =>
        obtain ⟨d, e3, h⟩ := bind_some h
        cases d with
        | list es =>
          dsimp only at h
          split at h
          · next hz =>
            have := intsOf_eq h
            subst this
            exact ⟨hl, by simpa using hz, ρ1, ρ2, e1, e2, e3⟩
          · cases h
        | _ => cases h
  · cases h
structure GenFn (P : Program) (w : World) (K : PySem.W.Frag) (mg : Str → Option Value) (base : Heap) (k : Nat) (x : Str) (G : List D → Option (List Int)) : Prop where
  ex : ∃ f, mg x = some (.ref f) ∧ PySem.W.keepIn K (.ref f) = true ∧ ∀ X : Cx, X.prog = P → X.w = w → X.K = K → X.mg = mg → X.base = base → ∀ (pins : List (Addr × Obj)) (σ : L2.St) (H : Hp) (s : Shared) (us : List Value) (vs : List V) (ds : List D) (O : Addr → Prop) (rows : List Int),
    Inv X pins σ H s → Room k X.A → Vals vs us → Otr O H → RepL O H ds vs → G ds = some rows → rows.length ≤ 100000 ∧ wpAny (model X.prog X.w) X.A (call (.ref f) us) (fun u s' => GMW X pins σ H s (fun R => R ≠ X.env.locals ∧ ¬ O R) (rows.map V.int) u s') X.xe s
theorem genfn_mk {P : Program} {w : World} {K : PySem.W.Frag} {mg : Str → Option Value} {base : Heap} {x : Str} {st : Stmt} {f : Addr} {fd : FuncData} {N ps : List Str} {k n tot : Nat} {st1 st2 : Stmt} {e : Expr} {yp ypos : Pos} {F1 F2 : Rho → Option Out} {gy : Rho → Option D}
    (F : L2.Fun K x x st f fd) (S : GScope N ps (defScope st)) (bi : Binds K fd ps []) (hm : mg x = some (.ref f)) (hB : defBody st = [st1, st2, .Expr (.YieldFrom e yp) ypos]) (hN : N.length = tot) (hn : ps.length = n) (htot : n ≤ tot)
    (h1 : ∀ (B : Base) (cdv : Value) (A : Around) (outer : List PySem.Env) (s : Shared) (H : Hp) (E : XK), Room k (A.deeper (envOfC x (defScope st) s.heap.objs.size f cdv)) → DS (cxOf CX0 P w K mg base N x (defScope st) f cdv A outer s H E).nox B st1 F1)
    (h2 : ∀ (B : Base) (cdv : Value) (A : Around) (outer : List PySem.Env) (s : Shared) (H : Hp) (E : XK), Room k (A.deeper (envOfC x (defScope st) s.heap.objs.size f cdv)) → DS (cxOf CX0 P w K mg base N x (defScope st) f cdv A outer s H E).nox B st2 F2)
    (h3 : ∀ (B : Base) (cdv : Value) (A : Around) (outer : List PySem.Env) (s : Shared) (H : Hp) (E : XK), Room k (A.deeper (envOfC x (defScope st) s.heap.objs.size f cdv)) → DP (cxOf CX0 P w K mg base N x (defScope st) f cdv A outer s H E).nox B .bas e gy) :
    GenFn P w K mg base (k + 2) x (genF n tot F1 F2 gy) := by
  refine ⟨f, hm, F.kp, fun X hP hw hK hmg hb pins σ H s us vs ds O rows I hr r t rr hG => ?_⟩
  subst hP hw hK hmg hb
  obtain ⟨hl, hz, ρ1, ρ2, e1, e2, e3⟩ := genF_some hG
  exact ⟨hz, gen_call F S bi hB hN hn h1 h2 h3 I hr r t rr hl htot e1 e2 e3⟩
@[simp] def lastR (j : Nat) (rows : List Int) (ρ : Rho) : Rho := match rows.getLast? with
  | none => ρ
  | some n => ρ.set j (.dat (.int n))
@[simp] def forGF (i j : Nat) (gs : Rho → Option (List D)) (G : List D → Option (List Int)) : Rho → Option Out := fun ρ => (gs ρ).bind fun ds => (G ds).bind fun rows => (ρ[i]?).bind fun t => (ownOf t).bind fun es =>
  if es.length ≤ 100000 then some (.nx (lastR j rows (ρ.set i (reOwn t (es ++ intsD rows))))) else none
theorem last_ints {σ : L2.St} {j : Nat} {rows : List Int} {n : Int} (h : rows.getLast? = some n) : lastσ σ j (rows.map V.int) = σ.set j (some (.int n)) := by
  unfold lastσ
  cases rows with
  | nil => cases h
  | cons a as =>
    rw [List.getLast?_eq_getElem?] at h
    simp only [List.length_map, List.length_cons, Nat.add_sub_cancel] at h ⊢
    rw [List.getElem?_map, h]
    rfl
theorem ds_forG {X : Cx} {B : Base} {i j k kk : Nat} {x y gn : Str} {e : Expr} {es : List Expr} {gs : Rho → Option (List D)} {G : List D → Option (List Int)} {px p2 p3 p4 p5 p6 p7 p8 pos : Pos}
    (hF : GenFn X.prog X.w X.K X.mg X.base k gn G) (hr : Room kk X.A) (hkk : k ≤ kk) (hc : X.calm = true) (ha : DPA X B .str (e :: es) gs) (hN : X.N.Nodup) (hi : X.N[i]? = some y) (hky : X.env.scope.names.lookup y = some .local) (hj : X.N[j]? = some x) (hkx : X.env.scope.names.lookup x = some .local) (hij : i ≠ j)
    (hp : PassesOwn (model X.prog X.w) X.A X.env X.xe)
    (hg : Gl X gn := by rfl) (hdb : (gn == ("__debug__" : Str)) = false := by decide) (he : starEach (e :: es) X.env = (false, eval e X.env) :: starEach es X.env := by rfl) (hpl : (backTo p3 (starEach es X.env)).any (·.1) = false := by rfl)
    (hs : ∀ v, foldedSetIterable (.Call (.Name gn p2) (e :: es) [] p3) X.env v = pure v := by intro _; rfl)
    (hdy : (y == ("__debug__" : Str)) = false := by decide) (hdx : (x == ("__debug__" : Str)) = false := by decide)
    (hbase : attributeBase (.Name y p4) "append" X.env (eval (.Name y p4) X.env) = eval (.Name y p4) X.env := by rfl)
    (hfew : ((backTo p7 (starEach [.Name x p6] X.env)).all (fun x => !x.1) && (backToKw p7 (keywordEach [] X.env)).all (fun x => x.1.isSome)
      && decide (([.Name x p6] : List Expr).length + ([] : List Keyword).length + (if ([] : List Keyword).isEmpty then 0 else 1) < 30)) = true := by rfl)
    (hline : (p5.endLine == p7.line) = true := by rfl) (hsw : swapsWith (.Call (.Attribute (.Name y p4) "append" p5) [.Name x p6] [] p7) none p8.line X.env = pure false := by rfl)
    (hsa : starEach [.Name x p6] X.env = (false, eval (.Name x p6) X.env) :: starEach [] X.env := by rfl) (hplain : (backTo p7 (starEach ([] : List Expr) X.env)).any (·.1) = false := by rfl) :
    DS X B (.For (.Name x px) (.Call (.Name gn p2) (e :: es) [] p3) [.Expr (.Call (.Attribute (.Name y p4) "append" p5) [.Name x p6] [] p7) p8] [] pos) (forGF i j gs G) := ⟨⟨fun pins s σ H D I ⟨O, ρ, r, gd, ev, q⟩ => by
  obtain ⟨ds, e1, ev⟩ := bind_some ev
  obtain ⟨rows, e2, ev⟩ := bind_some ev
  obtain ⟨t, e3, ev⟩ := bind_some ev
  obtain ⟨fs, e5, ev⟩ := bind_some ev
  split at ev
  · next hz =>
    cases ev
    obtain ⟨f, hm, kp, run⟩ := hF.ex
    refine wpAny_For ?_ hs
    refine wpAny_Call_Name_kw (ld_glob I hg hm ?_ hdb)
    refine PySem.W.callWith_K (h₀ := X.base) I.ok.mod.kin kp (thn (ha.pa.run p3 pins s σ H (fun vs H1 => Same H H1 ∧ RepL (Md.str.O B O) H1 ds vs) I ⟨O, ρ, ds, gd, e1, fun vs H1 s1 r1 => ⟨s1, r1⟩⟩) fun us s1 ⟨vs, H1, I1, rv, sm, rr⟩ => ⟨I1.kIn, ?_⟩) he hpl
    have g1 := gd.same sm
    obtain ⟨hz2, W⟩ := run X rfl rfl rfl rfl rfl pins σ H1 s1 us vs ds O rows I1 (hr.mono hkk) rv g1.otrk rr e2
    refine wpAny_mono W (fun u s2 GG => ?_) fun _ _ z => z
    obtain ⟨l, ws, h1, h2, h3, h4⟩ := g1.ownAt e3 e5
    have hgen : ∃ a g, u = .ref a ∧ s2.heap.IsGen a g := by
      obtain ⟨a, g, c, e, _, hg, _⟩ := id GG
      exact ⟨a, g, e, hg⟩
    obtain ⟨a, g, rfl, hgg⟩ := hgen
    refine wpAny_pyIter_gen hgg ?_
    refine gen_loop (Qf := fun f s' => SP X pins D f s') I1 hc (hr.mono hkk) GG hN hi hky hj hkx hij h1 h3 h2 (by rw [← h4.length, List.length_map, sizeLine_eq]; omega) (fun s9 H2 sm2 I9 => ?_) hdy hdx hbase hfew hline hsw hsa hplain
    have g2 := g1.same sm2
    have hl2 : H2 l = some (.lst ws) := sm2 l _ h3
    have m2 : Mv O H2 O (upd H2 l (.lst (ws ++ rows.map V.int))) := ⟨fun b o e q => by
      rw [upd_ne]
      · exact e
      · rintro rfl
        rcases q with q | q
        · rw [hl2] at e; cases e; exact q ws rfl
        · exact q h2, fun _ h => .inl h⟩
    have xt := g2.put (H' := upd H2 l (.lst (ws ++ rows.map V.int))) e3 e5 h1 (fun b o hb e => by rw [upd_ne hb]; exact e) upd_same (RepL.mv m2 _ _ ((h4.same sm2).append (rep_intsD rows)))
    have x2 := (Ext.of gd (sm.trans sm2)).trans xt
    refine ⟨_, _, I9, ?_⟩
    cases hlast : rows.getLast? with
    | none =>
      have er : rows = [] := by
        cases rows with
        | nil => rfl
        | cons a as => rw [List.getLast?_cons] at hlast; cases hlast
      subst er
      have q' := q
      simp only [lastR, List.getLast?_nil] at q'
      exact q' σ _ O (.ext x2) x2.good
    | some n =>
      have q' := q
      simp only [lastR, hlast] at q'
      rw [last_ints hlast]
      obtain ⟨g3, w3⟩ := x2.good.set (i := j) (d := .int n) (v := .int n) (rep_int.mpr rfl)
      exact q' _ _ O ⟨x2.keep, fun _ h => .inl h, fun _ h => h, fun b h => .inl (x2.w b (w3 b h))⟩ g3
  · cases ev⟩⟩
end DL

set_option autoImplicit false
namespace DL
open PySem PySem.Spec
open PyProof.Rows hiding St
open L2 GenW
/-! ## list(g(..)) -/
section
variable {X : Cx} {e : Expr} {te : TE}
def tYfList (te : TE) : TYf := fun σ H Q => te σ H fun x H1 => ∃ a xs, x = .ref a ∧ H1 a = some (.lst xs) ∧ Q xs H1
theorem yf_list (he : PE X e te) : YfE X e (tYfList te) := by
  refine ⟨fun pins s σ H Q I h => ?_⟩
  refine thn (he.run pins s σ H _ I h) fun v s1 ⟨x, H1, I1, r1, a, xs, ex, ha, hq⟩ => ?_
  subst ex
  obtain rfl : v = Value.ref a := r1
  obtain ⟨hlen, its, n, rits, ea⟩ := I1.hok a _ ha
  have ht : s1.heap.IsList a its.toArray := ⟨_, ea, rfl, _, rfl⟩
  refine ⟨"list", ht.typeIs, by decide, wpAny_pyIter_list ht ?_⟩
  have ksz : ∀ b o, s1.heap.get? b = some o → b ≠ s1.heap.objs.size := fun b o e => Nat.ne_of_lt (Heap.lt_size e)
  have kp : ∀ b o, s1.heap.get? b = some o → (s1.heap.push { cls := .type "list_iterator", data := .fields #[.ref a, .int 0 0] }).get? b = some o := fun b o e => Heap.get?_push_of_some _ e
  have hne : a ≠ s1.heap.objs.size := Nat.ne_of_lt (Heap.lt_size ea)
  refine ⟨s1.heap.objs.size, H1, xs, fun j h => h.IsListIter s1.heap.objs.size a j ∧ h.IsList a its.toArray, rfl, I1.kept (t' := s1.toks) kp, .inr I1.sz, Nat.ne_of_gt I1.lt, fun y c hy => ?_, I1.hok.fresh (Nat.le_refl _), fun p hp => ?_,
    ⟨⟨_, Heap.get?_push_size _ rfl, rfl, rfl⟩, let ⟨ob, eb, q⟩ := ht; ⟨ob, kp _ _ eb, q⟩⟩, ⟨⟨"list_iterator", fun j h q => ?_, close_listit, by decide⟩, fun j h h' q hk => ?_, fun A' j x s2 Q' E' hA hx q hQ => ?_, fun A' s2 Q' E' hA q hE => ?_⟩, hq⟩
  · obtain ⟨v, o, ho, _⟩ := I1.cell y c hy
    exact ksz c o ho
  · exact ksz p.1 _ (I1.pin p hp).1
  · obtain ⟨⟨o, ho, hc, _⟩, _⟩ := q
    exact ⟨o, ho, hc⟩
  · obtain ⟨⟨o, ho, r⟩, o2, ho2, r2⟩ := q
    exact ⟨⟨o, hk _ o (.inl rfl) ho, r⟩, o2, hk _ o2 (.inr (by rw [ha]; exact fun z => by cases z)) ho2, r2⟩
  · obtain ⟨q1, q2⟩ := q
    obtain ⟨u, hu, ru⟩ := rits.get hx
    exact special_list_item q1 q2 (x := u) (by simpa using hu) fun h' q1' hs => hQ u h' s2.toks ru ⟨q1', let ⟨ob, eb, q⟩ := q2; ⟨ob, (hs.2 a hne).trans eb, q⟩⟩ fun b o hb eb => (hs.2 b hb).trans eb
  · obtain ⟨q1, q2⟩ := q
    have hnone : its.toArray[xs.length]? = none := by
      have e := rits.length
      have e2 : its[xs.length]? = none := List.getElem?_eq_none_iff.mpr (by omega)
      simpa using e2
    exact special_list_end hA q1 q2 hnone fun e h' hS hk => hE e h' s2.toks hS fun b o hb eb => hk b o hb eb
end
def spG (G : List D → Option (List Int)) : SpG := fun vs H cont _ => ∃ O ds rows, Otr O H ∧ RepL O H ds vs ∧ G ds = some rows ∧ ∀ H', Same H H' → cont (rows.map V.int) H'
structure GenLs (P : Program) (w : World) (K : PySem.W.Frag) (mg : Str → Option Value) (base : Heap) (k : Nat) (x : Str) (G : List D → Option (List Int)) : Prop where
  ex : ∃ f fd ps, GFn P w K mg base k f fd ps (spG G) ∧ mg x = some (.ref f) ∧ PySem.W.keepIn K (.ref f) = true ∧ Binds K fd ps []
theorem genls_mk {P : Program} {w : World} {K : PySem.W.Frag} {mg : Str → Option Value} {base : Heap} {x : Str} {st : Stmt} {f : Addr} {fd : FuncData} {N ps : List Str} {k n tot : Nat} {st1 st2 : Stmt} {e : Expr} {yp ypos : Pos} {F1 F2 : Rho → Option Out} {gy : Rho → Option D}
    (F : L2.Fun K x x st f fd) (S : GScope N ps (defScope st)) (bi : Binds K fd ps []) (hm : mg x = some (.ref f)) (hB : defBody st = [st1, st2, .Expr (.YieldFrom e yp) ypos]) (hN : N.length = tot) (hn : ps.length = n) (htot : n ≤ tot)
    (h1 : ∀ (B : Base) (cdv : Value) (A : Around) (outer : List PySem.Env) (s : Shared) (H : Hp) (E : XK) (pn : List (Addr × Obj)), Room k (A.deeper (envOfC x (defScope st) s.heap.objs.size f cdv)) → DS (gcxOf P w K mg base N x (defScope st) f cdv A outer s H E pn) B st1 F1)
    (h2 : ∀ (B : Base) (cdv : Value) (A : Around) (outer : List PySem.Env) (s : Shared) (H : Hp) (E : XK) (pn : List (Addr × Obj)), Room k (A.deeper (envOfC x (defScope st) s.heap.objs.size f cdv)) → DS (gcxOf P w K mg base N x (defScope st) f cdv A outer s H E pn) B st2 F2)
    (h3 : ∀ (B : Base) (cdv : Value) (A : Around) (outer : List PySem.Env) (s : Shared) (H : Hp) (E : XK) (pn : List (Addr × Obj)), Room k (A.deeper (envOfC x (defScope st) s.heap.objs.size f cdv)) → DP (gcxOf P w K mg base N x (defScope st) f cdv A outer s H E pn) B .bas e gy) :
    GenLs P w K mg base (k + 1) x (genF n tot F1 F2 gy) := by
  obtain ⟨⟨oc, od, kV, doc, pm, an, cdv, ct, osl, rfl, lk, hcd⟩, kp⟩ := F
  refine ⟨f, _, ps, gfn_of lk hcd S (fun vs H Q E h => ?_) (fun A outer s H vs Q E pn hr h => ?_), hm, kp, bi⟩
  · obtain ⟨O, ds, rows, t, r, hG, _⟩ := h
    rw [← r.length, (genF_some hG).1, hn]
  · obtain ⟨O, ds, rows, t, r, hG, q⟩ := h
    obtain ⟨hl, hz, ρ1, ρ2, e1, e2, e3⟩ := genF_some hG
    rw [hB]
    have d1 := (h1 ⟨H, O, fun _ => False⟩ cdv A outer s H E pn hr).ps
    have d2 := (h2 ⟨H, O, fun _ => False⟩ cdv A outer s H E pn hr).ps
    have d3 := (h3 ⟨H, O, fun _ => False⟩ cdv A outer s H E pn hr).pe
    have hi : interactive (gcxOf P w K mg base N x (defScope st) f cdv A outer s H E pn).env = false := by
      show interactive (envOfC x (defScope st) s.heap.objs.size f cdv) = false
      have hk : (envOfC x (defScope st) s.heap.objs.size f cdv).scope.kind = .function := S.kind
      simp [interactive, hk]
    refine ⟨_, gss_cons (gs_ps d1) (gss_cons (gs_ps d2) (gss_cons (gs_yieldFrom (yf_list d3) hr.hd hi) gss_nil)), ?_⟩
    refine ⟨O, startR tot ds, .nx ρ1, good_start t r hN (by omega), e1, fun σ1 H1 O1 _ g1 => ?_⟩
    refine ⟨O1, ρ1, .nx ρ2, g1, e2, fun σ2 H2 O2 _ g2 => ?_⟩
    refine ⟨O2, ρ2, _, g2, e3, fun v H3 s3 r3 => ?_⟩
    simp only [Rep] at r3
    obtain ⟨R, ws, rfl, nO, hR, rw3⟩ := r3
    have ews := ints_rep rw3 (intsOf_intsD rows)
    subst ews
    refine ⟨R, _, rfl, hR, ?_, ?_⟩
    · rw [List.length_nil, List.length_map, sizeLine_eq]; omega
    · exact q H3 fun b o e => s3 b o (g2.frame b o e fun z => z)
@[simp] def lgenD (G : List D → Option (List Int)) : List D → Option D := fun ds => (G ds).bind fun rows => some (.list (intsD rows))
theorem dp_lgen {X : Cx} {B : Base} {m : Md} {k kk : Nat} {gn : Str} {e : Expr} {es : List Expr} {gs : Rho → Option (List D)} {G : List D → Option (List Int)} {p1 p2 p3 pos : Pos}
    (hF : GenLs X.prog X.w X.K X.mg X.base k gn G) (hr : Room kk X.A) (hkk : k + 3 ≤ kk) (hml : X.mg "list" = none) (ha : DPA X B m (e :: es) gs) (hg : Gl X gn := by rfl) (hgl : Gl X "list" := by rfl) (hdb : (gn == ("__debug__" : Str)) = false := by decide)
    (he : starEach (e :: es) X.env = (false, eval e X.env) :: starEach es X.env := by rfl) (hpl : (backTo p3 (starEach es X.env)).any (·.1) = false := by rfl)
    (he2 : starEach [Expr.Call (.Name gn p2) (e :: es) [] p3] X.env = (false, eval (.Call (.Name gn p2) (e :: es) [] p3) X.env) :: starEach [] X.env := by rfl) :
    DP X B m (.Call (.Name "list" p1) [.Call (.Name gn p2) (e :: es) [] p3] [] pos) (nD gs (lgenD G)) := by
  obtain ⟨f, fd, ps, GF, hm, kp, bi⟩ := hF.ex
  have pg := pgen_call (E := fun _ _ _ => False) (pos' := p3) (p := p2) GF (hr.mono (by omega)) hg hm kp bi .nil ha.pa hdb he hpl
  refine ⟨(pe_listG (p := p1) (pos := pos) pg (fun pins σ H s e s' _ c => ?_) (fun cls d H h => h.elim) (hr.mono hkk) hgl hml boot_list (by decide) (by decide) he2).imp fun σ H Q ⟨O, ρ, d, gd, ev, q⟩ => ?_⟩
  · obtain ⟨_, _, _, _, _, _, _, _, _, _, _, _, hW⟩ := c
    exact hW.elim
  · obtain ⟨ds, e1, e2⟩ := bind_some ev
    obtain ⟨rows, e3, e4⟩ := bind_some e2
    cases e4
    refine ⟨O, ρ, ds, gd, e1, fun vs H1 s1 r1 => ?_⟩
    show spG G (vs ++ []) H1 _ _
    rw [List.append_nil]
    refine ⟨m.O B O, ds, rows, (gd.same s1).otr m, r1, e3, fun H2 s2 p hp => ?_⟩
    exact q _ _ ((s1.trans s2).trans (same_upd hp)) (rep_lst ((gd.same (s1.trans s2)).otr m) hp (rep_intsD _))
end DL

set_option autoImplicit false
namespace DL
open PySem PySem.Spec
open PyProof.Rows hiding St
open L2
/-! ## a comprehension with two fors -/
def compL2 (b : D → Rho → Option Rho) (t : Rho → Option Bool) (gs1 : Rho → Option (List D)) (vs1 : List Nat) (b1 : D → Rho → Option Rho) (t1 : Rho → Option Bool) (g : Rho → Option D) (ρ : Rho) : List D → Option (List D)
  | [] => some []
  | d :: ds => (b d ρ).bind fun ρ1 => (t ρ1).bind fun c => if c = true then (gs1 ρ1).bind fun es => if es.length ≤ 1000 then (compL b1 t1 g (wipeR ρ1 vs1) es).bind fun xs => (compL2 b t gs1 vs1 b1 t1 g ρ ds).bind fun ys => some (xs ++ ys) else none else compL2 b t gs1 vs1 b1 t1 g ρ ds
@[simp] def lc2D (gs : Rho → Option (List D)) (vs : List Nat) (b : D → Rho → Option Rho) (t : Rho → Option Bool) (gs1 : Rho → Option (List D)) (vs1 : List Nat) (b1 : D → Rho → Option Rho) (t1 : Rho → Option Bool) (g : Rho → Option D) : Rho → Option D := fun ρ => (gs ρ).bind fun ds => if ds.length ≤ 100 then (compL2 b t gs1 vs1 b1 t1 g (wipeR ρ vs) ds).bind fun es => some (.list es) else none
theorem compL_le {b : D → Rho → Option Rho} {t : Rho → Option Bool} {g : Rho → Option D} {ρ : Rho} : ∀ {ds es : List D}, compL b t g ρ ds = some es → es.length ≤ ds.length
  | [], es, h => by cases h; exact Nat.le_refl _
  | d :: ds, es, h => by
    obtain ⟨ρ1, _, h⟩ := bind_some h
    obtain ⟨c, _, h⟩ := bind_some h
    cases c with
    | false => exact Nat.le_succ_of_le (compL_le h)
    | true =>
      obtain ⟨e, _, h⟩ := bind_some h
      obtain ⟨r, h1, h⟩ := bind_some h
      cases h
      exact Nat.succ_le_succ (compL_le h1)
theorem lc2_imp {B : Base} {gs gs1 : Rho → Option (List D)} {vs vs1 is is1 : List Nat} {b b1 : D → Rho → Option Rho} {t t1 : Rho → Option Bool} {g : Rho → Option D} (his : ∀ i ∈ is, i ∈ vs) (his1 : ∀ i ∈ is1, i ∈ vs1) {σ : St} {H : Hp} {Q : VK}
    (h : ∃ O ρ es, Good B O σ H ρ ∧ lc2D gs vs b t gs1 vs1 b1 t1 g ρ = some (.list es) ∧ ∀ a us H', Same H H' → H a = none → H' a = some (.lst us) → RepL (fun b => O b ∨ b = a) H' es us → Q (.ref a) H') :
    tLc2 (tItC B gs) (tG B is b) (tPT B t) (tIt B gs1) (tG B is1 b1) (tPT B t1) (tP B .str g) vs vs1 σ H Q := by
  obtain ⟨O, ρ, tot, gd, e, q⟩ := h
  obtain ⟨ds, e1, e2⟩ := bind_some e
  split at e2
  case isFalse => cases e2
  next hlen =>
  obtain ⟨es, e3, e4⟩ := bind_some e2
  cases e4
  refine ⟨O, ρ, ds, gd, e1, fun J H1 s1 src Dl hD => ?_⟩
  have g1 := gd.same s1
  obtain ⟨nD, nD0, hD0⟩ := g1.fresh hD
  have sD : Same H1 (upd H1 Dl (.lst [])) := same_upd hD
  obtain ⟨gw, ww⟩ := g1.wipe vs
  have g2 : Good B (fun b => O b ∨ b ∈ [Dl]) (wipe σ vs) (upd H1 Dl (.lst [])) (wipeR ρ vs) := gw.more sD (fun b hb => by
    have : b = Dl := by simpa using hb
    rw [this]; exact hD) fun b hb => by
    have : b = Dl := by simpa using hb
    rw [this]; exact some_ne upd_same
  have nW : ¬ Wof (wipe σ vs) (wipeR ρ vs) Dl := fun z => nD (gw.wof z).1
  refine ⟨fun i n Hi => n = ds.length - i ∧ i ≤ ds.length ∧ ∃ acc fs rest, Hi Dl = some (.lst acc) ∧ Same H1 Hi ∧ Good B (fun b => O b ∨ b ∈ [Dl]) (wipe σ vs) Hi (wipeR ρ vs) ∧ RepL (fun b => O b ∨ b = Dl) Hi fs acc ∧ acc.length ≤ 1000 * i ∧ compL2 b t gs1 vs1 b1 t1 g (wipeR ρ vs) (ds.drop i) = some rest ∧ fs ++ rest = tot,
    ⟨ds.length, by simp, Nat.zero_le _, [], [], tot, upd_same, sD, g2, .nil, Nat.le_refl _, by simpa using e3, rfl⟩, ?_⟩
  rintro i n Hi ⟨rfl, hi, acc, fs, rest, hacc, sHi, gi, rfs, hal, ec, etot⟩
  obtain ⟨sgo, sst, sy⟩ := src (fun b => O b ∨ b ∈ [Dl]) Hi sHi (fun b h => h.elim .inl fun z => .inr (by
    have : b = Dl := by simpa using z
    rw [this]; exact hD)) gi.otrk
  by_cases hlt : i < ds.length
  · rw [List.drop_eq_getElem_cons hlt] at ec
    obtain ⟨ρ1, c1, c2⟩ := bind_some ec
    obtain ⟨k, c3, c4⟩ := bind_some c2
    refine .inr ⟨sgo i hlt, fun Hn => i + 1 ≤ ds.length ∧ ∃ acc fs rest, Hn Dl = some (.lst acc) ∧ Same H1 Hn ∧ Good B (fun b => O b ∨ b ∈ [Dl]) (wipe σ vs) Hn (wipeR ρ vs) ∧ RepL (fun b => O b ∨ b = Dl) Hn fs acc ∧ acc.length ≤ 1000 * (i + 1) ∧ compL2 b t gs1 vs1 b1 t1 g (wipeR ρ vs) (ds.drop (i + 1)) = some rest ∧ fs ++ rest = tot,
      fun Hn ⟨h1, h2⟩ => ⟨ds.length - (i + 1), by omega, rfl, h1, h2⟩, fun x H2 y => ?_⟩
    obtain ⟨d, ed, s2, rx⟩ := sy i x H2 hlt y
    have ed2 : ds[i] = d := by
      rw [List.getElem?_eq_getElem hlt] at ed
      exact Option.some.inj ed
    subst ed2
    refine ⟨_, wipeR ρ vs, _, ρ1, gi.same s2, rx, c1, fun σ2 g3 w3 hσ hl2 => ?_⟩
    have hDi : Hi Dl = some (.lst acc) := hacc
    have nW2 : ¬ Wof σ2 ρ1 Dl := fun z => nW (w3 Dl z)
    refine ⟨(wipe_eq hl2 fun j hj => hσ j fun z => hj (his j z)).trans (wipe_wipe σ vs), (fun b => O b ∨ b ∈ [Dl]), ρ1, k, g3, c3, fun H3 s3 => ?_⟩
    have s13 : Same H1 H3 := (sHi.trans s2).trans s3
    cases k with
    | false =>
      refine ⟨hlt, acc, fs, rest, s3 _ _ (s2 _ _ hDi), s13, gi.same (s2.trans s3), rfs.same (s2.trans s3), by omega, c4, etot⟩
    | true =>
      obtain ⟨us, c5, c6⟩ := bind_some c4
      split at c6
      case isFalse => cases c6
      next hul =>
      obtain ⟨xs, c7, c8⟩ := bind_some c6
      obtain ⟨rest', c9, c10⟩ := bind_some c8
      cases c10
      refine ⟨(fun b => O b ∨ b ∈ [Dl]), ρ1, us, g3.same s3, c5, fun J1 H4 s4 src1 => ?_⟩
      obtain ⟨G1, g10, g1m, g1go, g1st, g1y⟩ := src1
      have hD4 : H4 Dl = some (.lst acc) := s4 _ _ (s3 _ _ (s2 _ _ hDi))
      have s14 : Same H1 H4 := s13.trans s4
      refine ⟨fun j m Hj => m = us.length - j ∧ j ≤ us.length ∧ ∃ acc' fs' rs, Hj Dl = some (.lst acc') ∧ Same H1 Hj ∧ Mv (fun b => O b ∨ b ∈ [Dl]) H4 (fun b => O b ∨ b ∈ [Dl]) Hj ∧ Good B (fun b => O b ∨ b ∈ [Dl]) (wipe σ vs) Hj (wipeR ρ vs) ∧ Good B (fun b => O b ∨ b ∈ [Dl]) σ2 Hj ρ1 ∧
        RepL (fun b => O b ∨ b = Dl) Hj fs' acc' ∧ acc'.length ≤ 1000 * i + j ∧ compL b1 t1 g (wipeR ρ1 vs1) (us.drop j) = some rs ∧ fs' ++ rs = fs ++ xs,
        ⟨us.length, by simp, Nat.zero_le _, acc, fs, xs, hD4, s14, .same (Same.refl _), gi.same ((s2.trans s3).trans s4), g3.same (s3.trans s4), rfs.same ((s2.trans s3).trans s4), by omega, by simpa using c7, rfl⟩, ?_⟩
      rintro j m Hj ⟨rfl, hj, acc', fs', rs, hacc', sHj, mvj, goj, gmj, rfs', hal', ecj, etj⟩
      have gj := g1m _ _ _ _ mvj g10
      by_cases hjl : j < us.length
      · rw [List.drop_eq_getElem_cons hjl] at ecj
        obtain ⟨ρ2, k1, k2⟩ := bind_some ecj
        obtain ⟨kk, k3, k4⟩ := bind_some k2
        refine .inr ⟨g1go j _ _ hjl gj, fun Hn => j + 1 ≤ us.length ∧ ∃ acc' fs' rs, Hn Dl = some (.lst acc') ∧ Same H1 Hn ∧ Mv (fun b => O b ∨ b ∈ [Dl]) H4 (fun b => O b ∨ b ∈ [Dl]) Hn ∧ Good B (fun b => O b ∨ b ∈ [Dl]) (wipe σ vs) Hn (wipeR ρ vs) ∧ Good B (fun b => O b ∨ b ∈ [Dl]) σ2 Hn ρ1 ∧
          RepL (fun b => O b ∨ b = Dl) Hn fs' acc' ∧ acc'.length ≤ 1000 * i + (j + 1) ∧ compL b1 t1 g (wipeR ρ1 vs1) (us.drop (j + 1)) = some rs ∧ fs' ++ rs = fs ++ xs,
          fun Hn ⟨h1, h2⟩ => ⟨us.length - (j + 1), by omega, rfl, h1, h2⟩, fun x1 H5 y1 => ?_⟩
        obtain ⟨d1, ed1, s5, rx1⟩ := g1y j _ _ x1 H5 hjl goj.otrk gj y1
        have ed3 : us[j] = d1 := by
          rw [List.getElem?_eq_getElem hjl] at ed1
          exact Option.some.inj ed1
        subst ed3
        obtain ⟨gmw, wmw⟩ := (gmj.same s5).wipe vs1
        have mvs : ∀ {H' : Hp}, Same Hj H' → Mv (fun b => O b ∨ b ∈ [Dl]) H4 (fun b => O b ∨ b ∈ [Dl]) H' := fun sm => ⟨fun b o e q => sm b o (mvj.keep b o e q), fun b h => .inl h⟩
        refine ⟨_, wipeR ρ1 vs1, _, ρ2, gmw, rx1, k1, fun σ3 g4 w4 hσ3 hl3 => ?_⟩
        refine ⟨(wipe_eq hl3 fun j hj => hσ3 j fun z => hj (his1 j z)).trans (wipe_wipe σ2 vs1), (fun b => O b ∨ b ∈ [Dl]), ρ2, kk, g4, k3, fun H6 s6 => ?_⟩
        have s56 : Same Hj H6 := s5.trans s6
        cases kk with
        | false =>
          exact ⟨hjl, acc', fs', rs, s56 _ _ hacc', sHj.trans s56, mvs s56, goj.same s56, gmj.same s56, rfs'.same s56, by omega, k4, etj⟩
        | true =>
          obtain ⟨z, k5, k6⟩ := bind_some k4
          obtain ⟨rs', k7, k8⟩ := bind_some k6
          cases k8
          refine ⟨_, ρ2, z, g4.same s6, k5, fun yv H7 s7 ry => ?_⟩
          have s57 : Same Hj H7 := s56.trans s7
          have hD7 : H7 Dl = some (.lst acc') := s57 _ _ hacc'
          have szl : acc'.length < sizeLine := by rw [sizeLine_eq]; omega
          have nW2' : ¬ Wof σ2 ρ1 Dl := nW2
          refine ⟨acc', hD7, szl, hjl, acc' ++ [yv], fs' ++ [z], rs', upd_same, fun c o e => ?_, ⟨fun c o e q => ?_, fun b h => .inl h⟩, ?_, ?_, ?_, by rw [List.length_append]; simp; omega, k7, by rw [List.append_assoc]; exact etj⟩
          · rw [upd_ne (ne_of_none e hD)]
            exact s57 _ _ (sHj _ _ e)
          · rw [upd_ne]
            · exact s57 _ _ (mvj.keep c o e q)
            · rintro rfl
              rw [hD4] at e
              cases e
              rcases q with q | q
              · exact q acc rfl
              · exact q (.inr (by simp))
          · exact (goj.same s57).at (.inr (by simp)) hD0 nW ⟨acc', hD7⟩
          · exact (gmj.same s57).at (.inr (by simp)) hD0 nW2' ⟨acc', hD7⟩
          · have r0 : RepL (fun b => O b ∨ b = Dl) H7 (fs' ++ [z]) (acc' ++ [yv]) := (rfs'.same s57).append (.one (ry.less fun b h => h.elim .inl fun e => .inr (by simp [e])))
            refine RepL.mv ⟨fun b o e q => ?_, fun b h => .inl h⟩ _ _ r0
            rw [upd_ne]
            · exact e
            · rintro rfl
              rw [hD7] at e
              cases e
              rcases q with q | q
              · exact q acc' rfl
              · exact q (.inr rfl)
      · have en : j = us.length := by omega
        subst en
        rw [List.drop_length] at ecj
        cases ecj
        rw [List.append_nil] at etj
        refine .inl ⟨g1st _ _ gj, hlt, acc', fs', rest', hacc', sHj, goj, rfs', by omega, c9, by rw [etj, List.append_assoc]; exact etot⟩
  · have en : i = ds.length := by omega
    subst en
    rw [List.drop_length] at ec
    cases ec
    rw [List.append_nil] at etot
    subst etot
    have : RepL (fun b => O b ∨ b = Dl) Hi fs acc := rfs
    exact .inl ⟨sst, q Dl acc Hi (s1.trans sHi) (s1.free hD) hacc rfs⟩
theorem lc2_list {gs gs1 : Rho → Option (List D)} {vs vs1 : List Nat} {b b1 : D → Rho → Option Rho} {t t1 : Rho → Option Bool} {g : Rho → Option D} {ρ : Rho} {d : D} (e : lc2D gs vs b t gs1 vs1 b1 t1 g ρ = some d) : ∃ es, d = .list es := by
  obtain ⟨ds, _, e2⟩ := bind_some e
  split at e2
  · obtain ⟨es, _, e4⟩ := bind_some e2
    cases e4
    exact ⟨es, rfl⟩
  · cases e2
theorem ds_setLc2 {X : Cx} {B : Base} {i : Nat} {y : Str} {py spos pos : Pos} {elt tg iter tg1 iter1 : Expr} {ifs ifs1 : List Expr} {scope : Scope} {own : List (Str × Nat)} {vs1 is is1 : List Nat} {gs gs1 : Rho → Option (List D)} {b b1 : D → Rho → Option Rho} {t t1 : Rho → Option Bool} {g : Rho → Option D}
    (hc : X.calm = true) (hN : X.N.Nodup) (hy : X.N[i]? = some y) (hyl : X.env.scope.names.lookup y = some .local) (hsw : swapsWith (.ListComp elt [⟨tg, iter, ifs, 0⟩, ⟨tg1, iter1, ifs1, 0⟩] scope pos) (some (.Name y py)) spos.line X.env = pure true)
    (hi : DIC X B tg iter gs) (ok : BlkOk X.N X.env.scope scope own) (his : ∀ i ∈ is, i ∈ own.map (·.2)) (his1 : ∀ i ∈ is1, i ∈ vs1) (hv : ∀ i ∈ vs1, i ∈ own.map (·.2))
    (hg : ∀ (s : Shared) (H : Hp) (C : Addr) (cl : List (Str × Addr)) (fp : List Addr), DG (X.blk s H scope (compEnvC scope cl C X.env) fp) B tg is b)
    (ht : ∀ (s : Shared) (H : Hp) (C : Addr) (cl : List (Str × Addr)) (fp : List Addr), DTs (X.blk s H scope (compEnvC scope cl C X.env) fp) B ifs t)
    (hi1 : ∀ (s : Shared) (H : Hp) (C : Addr) (cl : List (Str × Addr)) (fp : List Addr), DI (X.blk s H scope (compEnvC scope cl C X.env) fp) B tg1 iter1 gs1)
    (hg1 : ∀ (s : Shared) (H : Hp) (C : Addr) (cl : List (Str × Addr)) (fp : List Addr), DG (X.blk s H scope (compEnvC scope cl C X.env) fp) B tg1 is1 b1)
    (ht1 : ∀ (s : Shared) (H : Hp) (C : Addr) (cl : List (Str × Addr)) (fp : List Addr), DTs (X.blk s H scope (compEnvC scope cl C X.env) fp) B ifs1 t1)
    (he : ∀ (s : Shared) (H : Hp) (C : Addr) (cl : List (Str × Addr)) (fp : List Addr), DP (X.blk s H scope (compEnvC scope cl C X.env) fp) B .str elt g) (hs : ∀ x, foldedSetIterable iter X.env x = pure x := by intro _; rfl) (hs1 : ∀ env x, foldedSetIterable iter1 env x = pure x := by intro _ _; rfl) :
    DS X B (.Assign [.Name y py] (.ListComp elt [⟨tg, iter, ifs, 0⟩, ⟨tg1, iter1, ifs1, 0⟩] scope pos) spos) (setP i (lc2D gs (own.map (·.2)) b t gs1 vs1 b1 t1 g)) :=
  ⟨(ps_setLc2 hc hN hy hyl hsw hi.pi ok hv (fun s H C cl fp => (hg s H C cl fp).pg) (fun s H C cl fp => (ht s H C cl fp).pts) (fun s H C cl fp => (hi1 s H C cl fp).pi) (fun s H C cl fp => (hg1 s H C cl fp).pg) (fun s H C cl fp => (ht1 s H C cl fp).pts) (fun s H C cl fp => (he s H C cl fp).pe) hs hs1).imp fun E σ H ⟨O, ρ, r, gd, e, q⟩ => by
    obtain ⟨d, e1, e2⟩ := bind_some e
    cases e2
    obtain ⟨es, rfl⟩ := lc2_list e1
    refine lc2_imp his his1 ⟨O, ρ, es, gd, e1, fun a us H' s ha ha' r => ?_⟩
    obtain ⟨n1, n2, n3⟩ := gd.fresh ha
    have rr : Rep O H' (.list es) (.ref a) := rep_fresh n1 (fun c z => .inl z) ha' r
    obtain ⟨g2, w2⟩ := (gd.same s).set (i := i) rr
    exact q _ H' O ⟨.of s, fun _ h => .inl h, fun _ h => h, fun b h => .inl (w2 b h)⟩ g2⟩
end DL

set_option autoImplicit false
namespace DL
open PySem PySem.Spec
open PyProof.Rows hiding St
open L2
/-! ## a def without parameters called -/
theorem dp_call0 {X : Cx} {B : Base} {m : Md} {x : Str} {k j : Nat} {F : List D → Option D} {p pos : Pos} (hF : Fn X.prog X.w X.K X.mg X.base k x F) (hr : Room j X.A) (hk : k ≤ j) (hg : Gl X x := by rfl) (hdb : (x == ("__debug__" : Str)) = false := by decide) :
    DP X B m (.Call (.Name x p) [] [] pos) (nD nilA F) := by
  obtain ⟨fa, fd, ps, G, hm, kp, b⟩ := hF.ex
  refine ⟨(pe_call0 G (hr.mono hk) hg hm kp b .nil pass0 hdb).imp fun σ H Q ⟨O, ρ, d, gd, e, q⟩ => ?_⟩
  obtain ⟨ds, e1, e2⟩ := bind_some e
  cases e1
  show spP F ([] ++ []) H Q E0
  exact ⟨_, [], d, gd.otr m, .nil, e2, fun v H2 s2 r2 => q v H2 s2 r2⟩
end DL

set_option autoImplicit false
namespace DL
open PySem PySem.Spec
open PyProof.Rows hiding St
open L2
/-! ## data without lists -/
def NO : Addr → Prop := fun _ => False
mutual
def flat : D → Bool
  | .list _ => false
  | .tuple ds => flatL ds
  | .dict _ => false
  | .none => true
  | .bool _ => true
  | .int _ => true
  | .str _ => true
def flatL : List D → Bool
  | [] => true
  | d :: ds => flat d && flatL ds
end
mutual
theorem rep_flat {O O' : Addr → Prop} {H : Hp} : ∀ (d : D) (v : V), flat d = true → Rep O H d v → Rep O' H d v
  | .none, v, f, h => by simpa only [Rep] using h
  | .bool b, v, f, h => by simpa only [Rep] using h
  | .int b, v, f, h => by simpa only [Rep] using h
  | .str b, v, f, h => by simpa only [Rep] using h
  | .list ds, v, f, h => by simp [flat] at f
  | .tuple ds, v, f, h => by
    simp only [Rep] at h ⊢
    obtain ⟨a, vs, rfl, ha, r⟩ := h
    exact ⟨a, vs, rfl, ha, repL_flat ds vs (by simpa [flat] using f) r⟩
  | .dict _, v, f, h => by simp only [Rep] at h
theorem repL_flat {O O' : Addr → Prop} {H : Hp} : ∀ (ds : List D) (vs : List V), flatL ds = true → RepL O H ds vs → RepL O' H ds vs
  | [], vs, f, h => by simpa only [RepL] using h
  | d :: ds, vs, f, h => by
    simp only [RepL] at h ⊢
    obtain ⟨v, ws, rfl, r1, r2⟩ := h
    simp only [flatL, Bool.and_eq_true] at f
    exact ⟨v, ws, rfl, rep_flat d v f.1 r1, repL_flat ds ws f.2 r2⟩
end
theorem flatL_app : ∀ (ds es : List D), flatL (ds ++ es) = (flatL ds && flatL es)
  | [], es => by simp [flatL]
  | d :: ds, es => by simp [flatL, flatL_app ds es, Bool.and_assoc]
theorem flatL_mem : ∀ {ds : List D} {d : D}, flatL ds = true → d ∈ ds → flat d = true
  | e :: ds, d, h, m => by
    simp only [flatL, Bool.and_eq_true] at h
    rcases List.mem_cons.mp m with rfl | m
    · exact h.1
    · exact flatL_mem h.2 m
/-! ## a document: its rule, its list of states -/
def dfs (vr : V) (l : Addr) : List (Str × V) := putF "states" (.ref l) (putF "rule" vr [])
theorem rs_ne : ¬ (("rule" : Str) = "states") := by decide +kernel
theorem dfs_rule (vr : V) (l : Addr) : (dfs vr l).lookup ("rule" : Str) = some vr := by
  unfold dfs
  rw [lookup_putF, if_neg rs_ne, lookup_putF, if_pos rfl]
theorem dfs_states (vr : V) (l : Addr) : (dfs vr l).lookup ("states" : Str) = some (.ref l) := by
  unfold dfs
  rw [lookup_putF, if_pos rfl]
theorem dfs_no (vr : V) (l : Addr) {m : Str} (h1 : ¬ m = "rule") (h2 : ¬ m = "states") : (dfs vr l).lookup m = none := by
  unfold dfs
  rw [lookup_putF, if_neg h2, lookup_putF, if_neg h1]
  all_goals rfl
structure DocAt (C : Addr) (H : Hp) (a l : Addr) (rl : D) (sts : List D) : Prop where
  ob : ∃ dx vr, H a = some (.ins C dx (dfs vr l)) ∧ Rep NO H rl vr
  ls : ∃ us, H l = some (.lst us) ∧ RepL NO H sts us
  fr : flat rl = true
  fs : flatL sts = true
section
variable {C a l : Addr} {rl : D} {sts : List D} {H H' : Hp}
def But (l : Addr) (H H' : Hp) : Prop := ∀ c o, c ≠ l → H c = some o → H' c = some o
theorem But.mv {us : List V} (k : But l H H') (hl : H l = some (.lst us)) : Mv (fun b => b = l) H NO H' := ⟨fun b o e q => by
  refine k b o (fun z => ?_) e
  rcases q with q | q
  · subst z
    rw [hl] at e; cases e; exact q us rfl
  · exact q z, fun _ z => z.elim⟩
theorem But.rep {us : List V} (k : But l H H') (hl : H l = some (.lst us)) {d : D} {v : V} (f : flat d = true) (r : Rep NO H d v) : Rep NO H' d v := Rep.mv (k.mv hl) d v (rep_flat d v f r)
theorem But.repL {us : List V} (k : But l H H') (hl : H l = some (.lst us)) {ds : List D} {vs : List V} (f : flatL ds = true) (r : RepL NO H ds vs) : RepL NO H' ds vs := RepL.mv (k.mv hl) ds vs (repL_flat ds vs f r)
theorem But.same (s : Same H H') : But l H H' := fun c o _ e => s c o e
theorem But.trans {H2 : Hp} (x : But l H H') (y : But l H' H2) : But l H H2 := fun c o n e => y c o n (x c o n e)
theorem DocAt.same (d : DocAt C H a l rl sts) (s : Same H H') : DocAt C H' a l rl sts := by
  obtain ⟨⟨dx, vr, h1, r1⟩, ⟨us, h2, r2⟩, f1, f2⟩ := d
  exact ⟨⟨dx, vr, s _ _ h1, r1.same s⟩, ⟨us, s _ _ h2, r2.same s⟩, f1, f2⟩
theorem DocAt.but (d : DocAt C H a l rl sts) (k : But l H H') {us' : List V} {sts' : List D} (h' : H' l = some (.lst us')) (r' : RepL NO H' sts' us') (f' : flatL sts' = true) : DocAt C H' a l rl sts' := by
  obtain ⟨⟨dx, vr, h1, r1⟩, ⟨us, h2, r2⟩, f1, f2⟩ := d
  refine ⟨⟨dx, vr, k _ _ (fun z => ?_) h1, k.rep h2 f1 r1⟩, ⟨us', h', r'⟩, f1, f'⟩
  subst z
  rw [h2] at h1; cases h1
end
def spM (C : Addr) (F : Addr → D → List D → List D → Option (D × List D)) : Sp := fun vs H Q _ => ∃ a l rl sts ds ws r sts', vs = V.ref a :: ws ∧ DocAt C H a l rl sts ∧ RepL NO H ds ws ∧ flatL ds = true ∧ F a rl sts ds = some (r, sts') ∧
  ∀ v H', But l H H' → DocAt C H' a l rl sts' → Rep NO H' r v → Q v H'
@[simp] def selfD (a : Addr) (d : D) : Rho → Option D := fun ρ => match ρ[(0 : Nat)]? with
  | some (.raw v) => if v = .ref a then some d else none
  | _ => none
structure ClsX (K : PySem.W.Frag) (C : Addr) : Prop where
  cls : Cls K C
  nr : NoAttr K C "rule"
  ns : NoAttr K C "states"
  most : ∃ u, Con K C "MOST" (.int 60) u
structure DocCx (X : Cx) (B : Base) (C a l : Addr) (rl : D) (sts : List D) : Prop where
  x : ClsX X.K C
  at_ : DocAt C B.H0 a l rl sts
  nR : ∀ b, ¬ B.R b
  nO : B.O0 = NO
section
variable {X : Cx} {B : Base} {m : Md} {C a l : Addr} {rl ls : D} {sts : List D} {e : Expr} {g g' : Rho → Option D} {pos : Pos}
theorem slot0 {O : Addr → Prop} {σ : St} {H : Hp} {ρ : Rho} {d z : D} (gd : Good B O σ H ρ) (h : selfD a d ρ = some z) : d = z ∧ σ[(0 : Nat)]? = some (some (V.ref a)) := by
  unfold selfD at h
  split at h
  · next v e =>
    split at h
    · next hv =>
      cases h
      have k := gd.slots 0 _ e
      subst hv
      exact ⟨rfl, k⟩
    · cases h
  · cases h
theorem DocCx.same {O : Addr → Prop} {σ : St} {H : Hp} {ρ : Rho} (c : DocCx X B C a l rl sts) (gd : Good B O σ H ρ) : Same B.H0 H := fun b o e => gd.frame b o e (c.nR b)
theorem dp_imp (h : DP X B m e g) (i : ∀ ρ d, g' ρ = some d → g ρ = some d) : DP X B m e g' := ⟨h.pe.imp fun σ H Q ⟨O, ρ, d, gd, e1, q⟩ => ⟨O, ρ, d, gd, i _ _ e1, q⟩⟩
theorem dp_flat (h : DP X B .bas e g) (f : ∀ ρ d, g ρ = some d → flat d = true) : DP X B m e g := ⟨h.pe.imp fun σ H Q ⟨O, ρ, d, gd, e1, q⟩ => ⟨O, ρ, d, gd, e1, fun v H' s r => q v H' s (rep_flat d v (f _ _ e1) r)⟩⟩
theorem dp_rule (c : DocCx X B C a l rl sts) (he : PE X e (tVar 0)) (hb : attributeBase e "rule" X.env (eval e X.env) = eval e X.env := by rfl) : DP X B m (.Attribute e "rule" pos) (selfD a rl) := ⟨(pe_fld he hb).imp fun σ H Q ⟨O, ρ, d, gd, e1, q⟩ => by
  obtain ⟨rfl, es⟩ := slot0 gd e1
  obtain ⟨dx, vr, h1, r1⟩ := (c.at_.same (c.same gd)).ob
  exact ⟨_, es, a, C, dx, _, vr, rfl, h1, c.x.cls, c.x.nr, dfs_rule _ _, q vr H (Same.refl H) (rep_flat _ _ c.at_.fr r1)⟩⟩
theorem dp_most (c : DocCx X B C a l rl sts) (he : PE X e (tVar 0)) (hb : attributeBase e "MOST" X.env (eval e X.env) = eval e X.env := by rfl) : DP X B m (.Attribute e "MOST" pos) (selfD a (.int 60)) := ⟨(pe_con he hb).imp fun σ H Q ⟨O, ρ, d, gd, e1, q⟩ => by
  obtain ⟨rfl, es⟩ := slot0 gd e1
  obtain ⟨dx, vr, h1, r1⟩ := (c.at_.same (c.same gd)).ob
  obtain ⟨u, k⟩ := c.x.most
  exact ⟨_, es, a, C, dx, _, _, u, rfl, h1, c.x.cls, k, dfs_no _ _ (by decide +kernel) (by decide +kernel), q _ H (Same.refl H) (rep_int.mpr rfl)⟩⟩
theorem dp_states (c : DocCx X B C a l rl sts) (he : PE X e (tVar 0)) (hb : attributeBase e "states" X.env (eval e X.env) = eval e X.env := by rfl) : DP X B .bas (.Attribute e "states" pos) (selfD a (.list sts)) := ⟨(pe_fld he hb).imp fun σ H Q ⟨O, ρ, d, gd, e1, q⟩ => by
  obtain ⟨rfl, es⟩ := slot0 gd e1
  have k := c.at_.same (c.same gd)
  obtain ⟨dx, vr, h1, r1⟩ := k.ob
  obtain ⟨us, h2, r2⟩ := k.ls
  refine ⟨_, es, a, C, dx, _, _, rfl, h1, c.x.cls, c.x.ns, dfs_states _ _, q _ H (Same.refl H) ?_⟩
  show Rep B.O0 H (.list sts) (.ref l)
  rw [c.nO]
  simp only [Rep]
  exact ⟨l, us, rfl, fun z => z, h2, r2⟩⟩
theorem dp_last {p1 p2 p3 p4 : Pos} {j} (c : DocCx X B C a l rl sts) (hl : sts.getLast? = some ls) (he : PE X e (tVar 0)) (hb : attributeBase e "states" X.env (eval e X.env) = eval e X.env := by rfl) :
    DP X B m (.Subscript (.Attribute e "states" p1) (.UnaryOp .USub (.Constant (.int 1) j p2) p3) p4) (selfD a ls) := by
  have h0 : DP X B .bas (.Subscript (.Attribute e "states" p1) (.UnaryOp .USub (.Constant (.int 1) j p2) p3) p4) (b2D (selfD a (.list sts)) (b1D (kD (.int 1)) negD) ixD) := dp_ix ix_seq o_ix (dp_states c he hb) (dp_un un_neg o_neg dp_int)
  have h1 : DP X B .bas (.Subscript (.Attribute e "states" p1) (.UnaryOp .USub (.Constant (.int 1) j p2) p3) p4) (selfD a ls) := dp_imp h0 fun ρ d e1 => by
    unfold selfD at e1
    split at e1
    · next v ev =>
      split at e1
      · next hv =>
        cases e1
        have hne : sts ≠ [] := by rintro rfl; simp at hl
        have hpos : 0 < sts.length := List.length_pos_iff.mpr hne
        rw [List.getLast?_eq_getElem?] at hl
        have e4 : atI sts (-1) = some ls := by
          unfold atI ixN
          rw [if_neg (by omega)]
          first
            | (rw [if_pos (by omega)]
               simp only [Option.bind_some]
               rw [← hl]
               congr 1
               omega)
            | skip
        simp [selfD, ev, hv, e4]
      · cases e1
    · cases e1
  exact dp_flat h1 fun ρ d e1 => by
    unfold selfD at e1
    split at e1
    · split at e1
      · cases e1
        exact flatL_mem c.at_.fs (List.mem_of_getLast? hl)
      · cases e1
    · cases e1
end
end DL

set_option autoImplicit false
namespace DL
open PySem PySem.Spec
open PyProof.Rows hiding St
open L2
/-! ## methods of a document -/
theorem good_startM {H : Hp} {ds : List D} {ws : List V} {y : Str} {N : List Str} {a : Addr} {tot : Nat} (r : RepL NO H ds ws) (hN : N.length = tot) (hl : ds.length ≤ tot) :
    Good ⟨H, NO, NO⟩ NO (L2.start (y :: N) (.ref a :: ws)) H (.raw (.ref a) :: startR tot ds) := by
  have hv := r.length
  have hst : L2.start (y :: N) (.ref a :: ws) = some (.ref a) :: L2.start N ws := by
    unfold L2.start
    simp
  have g1 := good_start (N := N) (O := NO) (fun _ z => z.elim) r hN hl
  rw [hst]
  have no : ∀ (i : Nat) s, (Sl.raw (.ref a) :: startR tot ds)[i]? = some s → isOwn s = false := fun i s e => by
    cases i with
    | zero =>
      simp at e; subst e; rfl
    | succ i =>
      rcases start_get r N hN (by simpa using e) with ⟨d, rfl, _⟩ | rfl
      · rfl
      · rfl
  refine ⟨by simp [g1.len], fun _ _ e _ => e, fun _ z => z.elim, fun _ h => h, fun _ h => h, fun _ z => z.elim, fun _ h => h, fun i s e => ?_, fun i j s t b e1 e2 q1 q2 _ _ => by rw [no i s e1] at q1; cases q1⟩
  cases i with
  | zero =>
    simp at e; subst e
    rfl
  | succ i =>
    have k := g1.slots i s (by simpa using e)
    rcases start_get r N hN (by simpa using e) with ⟨d, rfl, _⟩ | rfl
    · simpa [SlOk] using k
    · trivial
theorem good_self {H : Hp} {σ : St} {a : Addr} {n : Nat} (h : σ[(0 : Nat)]? = some (some (V.ref a))) (hl : σ.length = n + 1) : Good ⟨H, NO, NO⟩ NO σ H (.raw (.ref a) :: List.replicate n .nil) := by
  have no : ∀ (i : Nat) s, (Sl.raw (.ref a) :: List.replicate n .nil)[i]? = some s → isOwn s = false := fun i s e => by
    cases i with
    | zero =>
      simp at e; subst e; rfl
    | succ i =>
      rw [List.getElem?_cons_succ, List.getElem?_replicate] at e
      split at e
      · cases e; rfl
      · cases e
  refine ⟨by simp [hl], fun _ _ e _ => e, fun _ z => z.elim, fun _ h => h, fun _ h => h, fun _ z => z.elim, fun _ h => h, fun i s e => ?_, fun i j s t b e1 e2 q1 q2 _ _ => by rw [no i s e1] at q1; cases q1⟩
  cases i with
  | zero =>
    simp at e; subst e
    exact h
  | succ i =>
    rw [List.getElem?_cons_succ, List.getElem?_replicate] at e
    split at e
    · cases e; trivial
    · cases e
@[simp] def rdF (n tot : Nat) (b : Addr → D → D → Rho → Option Out) : Addr → D → List D → List D → Option (D × List D) := fun a rl sts ds => (sts.getLast?).bind fun ls => if ds.length = n then (b a rl ls (.raw (.ref a) :: startR tot ds)).bind fun r => (match r with
  | .rt d _ => some (d, sts)
  | .nx _ => some (.none, sts)) else none
@[simp] def kpF (tot : Nat) (b : Addr → D → Rho → Option Out) (g : Addr → D → Rho → Option D) : Addr → D → List D → List D → Option (D × List D) := fun a rl sts ds => if ds.length = 2 ∧ sts.length < 1000 then (b a rl (.raw (.ref a) :: startR tot ds)).bind fun r => (match r with
  | .nx ρ => (selfD a .none ρ).bind fun _ => (g a rl ρ).bind fun d => if flat d = true then some (.none, sts ++ [d]) else none
  | .rt _ _ => none) else none
@[simp] def muF (n tot : Nat) (pre : Addr → D → D → Rho → Option Out) (gs : Rho → Option (List D)) (g : Addr → D → Rho → Option D) (FK : Addr → D → List D → List D → Option (D × List D)) : Addr → D → List D → List D → Option (D × List D) := fun a rl sts ds => (sts.getLast?).bind fun ls =>
  if ds.length = n then (pre a rl ls (.raw (.ref a) :: startR tot ds)).bind fun r => (match r with
  | .nx ρ => (selfD a .none ρ).bind fun _ => (gs ρ).bind fun ks => if flatL ks = true then (FK a rl sts ks).bind fun p => (p.2.getLast?).bind fun ls' => (g a ls' (.raw (.ref a) :: List.replicate (ρ.length - 1) .nil)).bind fun d => some (d, p.2) else none
  | .rt _ _ => none) else none
def tM (B : Base) (F : Rho → Option Out) (t : TS) : TS := fun E σ H => ∃ O ρ ρ', Good B O σ H ρ ∧ F ρ = some (.nx ρ') ∧ ∀ σ' H' O', Stp O σ H ρ O' σ' H' ρ' → Good B O' σ' H' ρ' → t E σ' H'
section
variable {X : Cx} {B : Base} {st : Stmt} {sts : List Stmt} {F G : Rho → Option Out} {t : TS}
theorem tm_nil (h : PSs X sts t) : PSs X sts (tM B skipF t) := h.imp fun E σ H ⟨O, ρ, ρ', gd, e, q⟩ => by
  cases e
  exact q σ H O .refl gd
theorem tm_cons (h : DS X B st F) (h2 : PSs X sts (tM B G t)) : PSs X (st :: sts) (tM B (seqF F G) t) := (pss_cons h.ps h2).imp fun E σ H ⟨O, ρ, ρ', gd, e, q⟩ => by
  obtain ⟨r, e1, e2⟩ := bind_some e
  refine ⟨O, ρ, r, gd, e1, ?_⟩
  cases r with
  | rt d ρ1 => cases e2
  | nx ρ1 => exact fun σ1 H1 O1 s1 g1 => ⟨O1, ρ1, ρ', g1, e2, fun σ2 H2 O2 s2 g2 => q σ2 H2 O2 (s1.trans gd s2) g2⟩
end
def tEx (X : Cx) (C a : Addr) (g : D → Rho → Option D) : TE := fun σ H Q => ∃ B l rl sts ls, DocCx X B C a l rl sts ∧ sts.getLast? = some ls ∧ tP B .bas (g ls) σ H Q
theorem pe_ex {X : Cx} {C a : Addr} {e : Expr} {g : D → Rho → Option D} (h : ∀ B l rl sts ls, DocCx X B C a l rl sts → sts.getLast? = some ls → DP X B .bas e (g ls)) : PE X e (tEx X C a g) :=
  ⟨fun pins s σ H Q I ⟨B, l, rl, sts, ls, c, e1, q⟩ => (h B l rl sts ls c e1).pe.run pins s σ H Q I q⟩
section
variable {P : Program} {w : World} {K : PySem.W.Frag} {mg : Str → Option Value} {base : Heap} {C : Addr}
theorem rdm_mk {nm qual y : Str} {st : Stmt} {f : Addr} {fd : FuncData} {N ps : List Str} {k n tot : Nat} {b : Addr → D → D → Rho → Option Out} (F : L2.Fun K nm qual st f fd) (S : FnScope (y :: N) (y :: ps) (defScope st)) (hN : N.length = tot) (hn : ps.length = n) (cx : ClsX K C)
    (hb : ∀ (B : Base) (a l : Addr) (rl : D) (sts : List D) (ls : D) (cdv : Value) (A : Around) (outer : List PySem.Env) (s : Shared) (H : Hp) (E : XK), Room k (A.deeper (envOfC qual (defScope st) s.heap.objs.size f cdv)) →
      DocCx (cxOf CX0 P w K mg base (y :: N) qual (defScope st) f cdv A outer s H E).nox B C a l rl sts → sts.getLast? = some ls → DSs (cxOf CX0 P w K mg base (y :: N) qual (defScope st) f cdv A outer s H E).nox B (defBody st) (b a rl ls)) :
    FnOk P w K mg base CX0 (k + 1) f fd (y :: ps) (spM C (rdF n tot b)) := by
  have hpl : (y :: ps).length ≤ (y :: N).length := by have := congrArg List.length S.pre; rw [List.length_take] at this; omega
  refine F.ok S (fun vs H Q E h => ?_) (fun cdv A outer s H vs Q E hr h => ?_)
  · obtain ⟨a, l, rl, sts, ds, ws, r, sts', rfl, d, rw, fl, e, q⟩ := h
    obtain ⟨ls, e1, e2⟩ := bind_some e
    split at e2
    · next hl => rw [List.length_cons, List.length_cons, ← rw.length, hl, hn]
    · cases e2
  · obtain ⟨a, l, rl, sts, ds, ws, r, sts', rfl, d, rw, fl, e, q⟩ := h
    obtain ⟨ls, e1, e2⟩ := bind_some e
    split at e2
    · next hl =>
      obtain ⟨o, e3, e4⟩ := bind_some e2
      refine ⟨_, (hb ⟨H, NO, NO⟩ a l rl sts ls cdv A outer s H E hr ⟨cx, d, fun _ z => z, rfl⟩ e1).ps, NO, _, o, good_startM rw hN (by simp only [List.length_cons] at hpl; omega), e3, ?_⟩
      cases o with
      | nx ρ' =>
        cases e4
        exact fun σ' H' O' s3 g3 => q _ H' (fun c o _ e => g3.frame c o e fun z => z) (d.same fun c o e => g3.frame c o e fun z => z) (rep_none.mpr rfl)
      | rt z ρ' =>
        cases e4
        exact fun v σ' H' O' s3 g3 r3 => q v H' (fun c o _ e => g3.frame c o e fun z => z) (d.same fun c o e => g3.frame c o e fun z => z) r3
    · cases e2
theorem keep_mk {nm qual y : Str} {st : Stmt} {f : Addr} {fd : FuncData} {N ps : List Str} {k tot : Nat} {b : Addr → D → Rho → Option Out} {g : Addr → D → Rho → Option D} (F : L2.Fun K nm qual st f fd) (S : FnScope (y :: N) (y :: ps) (defScope st)) (hN : N.length = tot) (hn : ps.length = 2) (cx : ClsX K C)
    (hb : ∀ (B : Base) (a l : Addr) (rl : D) (sts : List D) (cdv : Value) (A : Around) (outer : List PySem.Env) (s : Shared) (H : Hp) (E : XK), Room k (A.deeper (envOfC qual (defScope st) s.heap.objs.size f cdv)) →
      DocCx (cxOf CX0 P w K mg base (y :: N) qual (defScope st) f cdv A outer s H E).nox B C a l rl sts →
      PSs (cxOf CX0 P w K mg base (y :: N) qual (defScope st) f cdv A outer s H E).nox (defBody st) (tM B (b a rl) (tDrop (tBM K "list" rAppend (tFld K (tVar 0) "states") (tCons (tP B .bas (g a rl)) tNil))))) :
    FnOk P w K mg base CX0 (k + 1) f fd (y :: ps) (spM C (kpF tot b g)) := by
  have hpl : (y :: ps).length ≤ (y :: N).length := by have := congrArg List.length S.pre; rw [List.length_take] at this; omega
  refine F.ok S (fun vs H Q E h => ?_) (fun cdv A outer s H vs Q E hr h => ?_)
  · obtain ⟨a, l, rl, sts, ds, ws, r, sts', rfl, d, rw, fl, e, q⟩ := h
    unfold kpF at e
    split at e
    · next hl => rw [List.length_cons, List.length_cons, ← rw.length, hl.1, hn]
    · cases e
  · obtain ⟨a, l, rl, sts, ds, ws, r, sts', rfl, d, rw, fl, e, q⟩ := h
    unfold kpF at e
    split at e
    · next hl =>
      obtain ⟨o, e3, e4⟩ := bind_some e
      cases o with
      | rt z ρ' => cases e4
      | nx ρ1 =>
        obtain ⟨_, e8, e7⟩ := bind_some e4
        obtain ⟨z, e5, e6⟩ := bind_some e7
        split at e6
        · next hf =>
          cases e6
          refine ⟨_, hb ⟨H, NO, NO⟩ a l rl sts cdv A outer s H E hr ⟨cx, d, fun _ z => z, rfl⟩, NO, _, ρ1, good_startM rw hN (by simp only [List.length_cons] at hpl; omega), e3, fun σ1 H1 O1 s1 g1 => ?_⟩
          have h0 := (slot0 g1 e8).2
          have sm : Same H H1 := fun c o e => g1.frame c o e fun z => z
          have d1 := d.same sm
          obtain ⟨dx, vr, h1, r1⟩ := d1.ob
          obtain ⟨us, h2, r2⟩ := d1.ls
          refine ⟨_, h0, a, C, dx, _, .ref l, rfl, h1, cx.cls, cx.ns, dfs_states _ _, .inl ⟨rfl, us, .of h2⟩, O1, ρ1, z, g1, e5, fun v H2 s2 r3 => ?_⟩
          have len := r2.length
          refine ⟨l, us, v, rfl, rfl, s2 _ _ h2, by rw [← len, sizeLine_eq]; omega, ?_⟩
          have bt : But l H2 (upd H2 l (.lst (us ++ [v]))) := fun c o n e => by rw [upd_ne n]; exact e
          have d2 := d1.same s2
          have r4 : Rep NO H2 z v := r3
          exact q .non _ ((But.same (sm.trans s2)).trans bt) (d2.but bt upd_same ((bt.repL (s2 _ _ h2) d2.fs (r2.same s2)).append (.one (bt.rep (s2 _ _ h2) hf r4))) (by rw [flatL_app, d2.fs]; simp [flatL, hf])) (rep_none.mpr rfl)
        · cases e6
    · cases e
end
end DL

set_option autoImplicit false
namespace DL
open PySem PySem.Spec
open PyProof.Rows hiding St
open L2
/-! ## methods that keep a new state -/
theorem mut_core {X : Cx} {C a l : Addr} {rl r : D} {sts sts' ds : List D} {ws : List V} {y : Str} {N : List Str} {Q : VK} {n tot : Nat} {pre : Addr → D → D → Rho → Option Out} {gs : Rho → Option (List D)} {g : Addr → D → Rho → Option D} {FK : Addr → D → List D → List D → Option (D × List D)} {H : Hp}
    (hN : N.length = tot) (hnt : n ≤ tot) (cx : ClsX X.K C) (d : DocAt C H a l rl sts) (rw : RepL NO H ds ws) (e : muF n tot pre gs g FK a rl sts ds = some (r, sts')) (q : ∀ v H', But l H H' → DocAt C H' a l rl sts' → Rep NO H' r v → Q v H') :
    ∃ ls, sts.getLast? = some ls ∧ ∀ E : Ends, E.rt = Q → tM ⟨H, NO, NO⟩ (pre a rl ls) (tSeq (tDrop (tMeth C "keep" (spM C FK) [] E0 (tVar 0) (tPA ⟨H, NO, NO⟩ .bas gs))) (tRet (tEx X C a (g a)))) E (L2.start (y :: N) (.ref a :: ws)) H := by
  unfold muF at e
  obtain ⟨ls, e1, e2⟩ := bind_some e
  refine ⟨ls, e1, fun E hE => ?_⟩
  split at e2
  · next hl =>
    obtain ⟨o, e3, e4⟩ := bind_some e2
    cases o with
    | rt z ρ' => cases e4
    | nx ρ1 =>
      obtain ⟨_, e8, e7⟩ := bind_some e4
      obtain ⟨ks, e5, e6⟩ := bind_some e7
      split at e6
      · next hf =>
        obtain ⟨p, e9, e10⟩ := bind_some e6
        obtain ⟨ls', e11, e12⟩ := bind_some e10
        obtain ⟨z, e13, e14⟩ := bind_some e12
        cases e14
        refine ⟨NO, _, ρ1, good_startM rw hN (by omega), e3, fun σ1 H1 O1 s1 g1 => ?_⟩
        have h0 := (slot0 g1 e8).2
        have sm : Same H H1 := fun c o e => g1.frame c o e fun z => z.elim
        have d1 := d.same sm
        obtain ⟨dx, vr, h1, r1⟩ := d1.ob
        refine ⟨_, h0, a, dx, _, rfl, h1, dfs_no _ _ (by decide +kernel) (by decide +kernel), O1, ρ1, ks, g1, e5, fun vs H2 s2 r3 => ?_⟩
        have r4 : RepL NO H2 ks vs := r3
        refine ⟨a, l, rl, sts, ks, vs ++ [], p.1, p.2, rfl, d1.same s2, by rw [List.append_nil]; exact r4, hf, e9, fun v H3 b3 d3 r5 => ?_⟩
        show tEx X C a (g a) σ1 H3 E.rt
        rw [hE]
        have hlen : σ1.length = (ρ1.length - 1) + 1 := by
          have k := g1.len
          have k2 : 0 < σ1.length := by
            by_cases hz : 0 < σ1.length
            · exact hz
            · rw [List.getElem?_eq_none (by omega)] at h0; cases h0
          omega
        exact ⟨⟨H3, NO, NO⟩, l, rl, p.2, ls', ⟨cx, d3, fun _ z => z, rfl⟩, e11, NO, _, _, good_self h0 hlen, e13, fun v H4 s4 r6 => q v H4 ((But.same (sm.trans s2)).trans (b3.trans (.same s4))) (d3.same s4) r6⟩
      · cases e6
  · cases e2
section
variable {P : Program} {w : World} {K : PySem.W.Frag} {mg : Str → Option Value} {base : Heap} {C : Addr}
theorem mut_mk {nm qual y : Str} {st : Stmt} {f : Addr} {fd : FuncData} {N ps : List Str} {k n tot : Nat} {pre : Addr → D → D → Rho → Option Out} {gs : Rho → Option (List D)} {g : Addr → D → Rho → Option D} {FK : Addr → D → List D → List D → Option (D × List D)}
    (F : L2.Fun K nm qual st f fd) (S : FnScope (y :: N) (y :: ps) (defScope st)) (hN : N.length = tot) (hn : ps.length = n) (cx : ClsX K C)
    (hb : ∀ (B : Base) (a l : Addr) (rl : D) (sts : List D) (ls : D) (cdv : Value) (A : Around) (outer : List PySem.Env) (s : Shared) (H : Hp) (E : XK), Room k (A.deeper (envOfC qual (defScope st) s.heap.objs.size f cdv)) →
      DocCx (cxOf CX0 P w K mg base (y :: N) qual (defScope st) f cdv A outer s H E).nox B C a l rl sts → sts.getLast? = some ls →
      PSs (cxOf CX0 P w K mg base (y :: N) qual (defScope st) f cdv A outer s H E).nox (defBody st) (tM B (pre a rl ls) (tSeq (tDrop (tMeth C "keep" (spM C FK) [] E0 (tVar 0) (tPA B .bas gs))) (tRet (tEx (cxOf CX0 P w K mg base (y :: N) qual (defScope st) f cdv A outer s H E).nox C a (g a)))))) :
    FnOk P w K mg base CX0 (k + 1) f fd (y :: ps) (spM C (muF n tot pre gs g FK)) := by
  have hpl : (y :: ps).length ≤ (y :: N).length := by have := congrArg List.length S.pre; rw [List.length_take] at this; omega
  simp only [List.length_cons] at hpl
  refine F.ok S (fun vs H Q E h => ?_) (fun cdv A outer s H vs Q E hr h => ?_)
  · obtain ⟨a, l, rl, sts, ds, ws, r, sts', rfl, d, rw, fl, e, q⟩ := h
    unfold muF at e
    obtain ⟨ls, e1, e2⟩ := bind_some e
    split at e2
    · next hl => rw [List.length_cons, List.length_cons, ← rw.length, hl, hn]
    · cases e2
  · obtain ⟨a, l, rl, sts, ds, ws, r, sts', rfl, d, rw, fl, e, q⟩ := h
    obtain ⟨ls, e1, h1⟩ := mut_core (X := (cxOf CX0 P w K mg base (y :: N) qual (defScope st) f cdv A outer s H E).nox) (y := y) hN (by omega) cx d rw e q
    exact ⟨_, hb ⟨H, NO, NO⟩ a l rl sts ls cdv A outer s H E hr ⟨cx, d, fun _ z => z, rfl⟩ e1, h1 _ rfl⟩
/-- .. with *times behind self -/
@[simp] def muV (F : Addr → D → List D → List D → Option (D × List D)) : Addr → D → List D → List D → Option (D × List D) := fun a rl sts ds => if ds.length ≤ 100000 then F a rl sts [.tuple ds] else none
theorem mutV_mk {nm qual y pv : Str} {st : Stmt} {f : Addr} {fd : FuncData} {N : List Str} {k tot : Nat} {pre : Addr → D → D → Rho → Option Out} {gs : Rho → Option (List D)} {g : Addr → D → Rho → Option D} {FK : Addr → D → List D → List D → Option (D × List D)}
    (F : L2.Fun K nm qual st f fd) (S : FnScope (y :: N) [y, pv] (defScope st)) (hbd : ∀ us rest : List Value, us.length = [y].length → bindArgs fd ⟨us ++ rest, []⟩ = (newTuple rest >>= fun t => pure ([y].zip us ++ [(pv, t)]))) (hN : N.length = tot) (cx : ClsX K C)
    (hb : ∀ (B : Base) (a l : Addr) (rl : D) (sts : List D) (ls : D) (cdv : Value) (A : Around) (outer : List PySem.Env) (s : Shared) (H : Hp) (E : XK), Room k (A.deeper (envOfC qual (defScope st) s.heap.objs.size f cdv)) →
      DocCx (cxOf CX0 P w K mg base (y :: N) qual (defScope st) f cdv A outer s H E).nox B C a l rl sts → sts.getLast? = some ls →
      PSs (cxOf CX0 P w K mg base (y :: N) qual (defScope st) f cdv A outer s H E).nox (defBody st) (tM B (pre a rl ls) (tSeq (tDrop (tMeth C "keep" (spM C FK) [] E0 (tVar 0) (tPA B .bas gs))) (tRet (tEx (cxOf CX0 P w K mg base (y :: N) qual (defScope st) f cdv A outer s H E).nox C a (g a)))))) :
    FnR P w K mg base CX0 (k + 1) f (spM C (muV (muF 1 tot pre gs g FK))) := by
  have hpl : [y, pv].length ≤ (y :: N).length := by have := congrArg List.length S.pre; rw [List.length_take] at this; omega
  simp only [List.length_cons, List.length_nil] at hpl
  obtain ⟨oc, od, kV, doc, pm, an, cdv, ct, osl, rfl, lk, hcd⟩ := F.ex
  refine FnR.imp (StX.fn_star (CX := CX0) (ps := [y]) (sp := spM C (muF 1 tot pre gs g FK)) lk hcd S StX.cxUp_none hbd fun A outer s H vs Q E hr h => ?_) fun vs H Q E h => ?_
  · obtain ⟨a, l, rl, sts, ds, ws, r, sts', rfl, d, rw, fl, e, q⟩ := h
    obtain ⟨ls, e1, h1⟩ := mut_core (X := (cxOf CX0 P w K mg base (y :: N) qual (defScope st) f cdv A outer s H E).nox) (y := y) hN (by omega) cx d rw e q
    exact ⟨_, (hb ⟨H, NO, NO⟩ a l rl sts ls cdv A outer s H E hr ⟨cx, d, fun _ z => z, rfl⟩ e1).nox, h1 _ rfl⟩
  · obtain ⟨a, l, rl, sts, ds, ws, r, sts', rfl, d, rw, fl, e, q⟩ := h
    unfold muV at e
    split at e
    · next hl =>
      have hlen := rw.length
      refine ⟨[.ref a], ws, rfl, rfl, line_le (by omega), fun p hp => ?_⟩
      have sm : Same H (upd H p (.tup ws)) := same_upd hp
      exact ⟨a, l, rl, sts, [.tuple ds], [.ref p], r, sts', rfl, d.same sm, .one (rep_tup hp rw), by simpa [flatL, flat] using fl, e, fun v H' b d' r' => q v H' ((But.same sm).trans b) d' r'⟩
    · cases e
end
mutual
theorem rep_tups {O O' : Addr → Prop} {H H' : Hp} (k : ∀ b vs, H b = some (.tup vs) → H' b = some (.tup vs)) : ∀ (d : D) (v : V), flat d = true → Rep O H d v → Rep O' H' d v
  | .none, v, f, h => by simpa only [Rep] using h
  | .bool b, v, f, h => by simpa only [Rep] using h
  | .int b, v, f, h => by simpa only [Rep] using h
  | .str b, v, f, h => by simpa only [Rep] using h
  | .list ds, v, f, h => by simp [flat] at f
  | .tuple ds, v, f, h => by
    simp only [Rep] at h ⊢
    obtain ⟨a, vs, rfl, ha, r⟩ := h
    exact ⟨a, vs, rfl, k a vs ha, repL_tups k ds vs (by simpa [flat] using f) r⟩
  | .dict _, v, f, h => by simp only [Rep] at h
theorem repL_tups {O O' : Addr → Prop} {H H' : Hp} (k : ∀ b vs, H b = some (.tup vs) → H' b = some (.tup vs)) : ∀ (ds : List D) (vs : List V), flatL ds = true → RepL O H ds vs → RepL O' H' ds vs
  | [], vs, f, h => by simpa only [RepL] using h
  | d :: ds, vs, f, h => by
    simp only [RepL] at h ⊢
    obtain ⟨v, ws, rfl, r1, r2⟩ := h
    simp only [flatL, Bool.and_eq_true] at f
    exact ⟨v, ws, rfl, rep_tups k d v f.1 r1, repL_tups k ds ws f.2 r2⟩
end
/-! ## __init__ -/
def spI (C : Addr) (chk : Addr → D → Option D) (st0 : D) : Sp := fun vs H Q _ => ∃ a dx v rl rl', vs = [V.ref a, v] ∧ H a = some (.ins C dx []) ∧ Rep NO H rl v ∧ chk a rl = some rl' ∧ flat rl' = true ∧
  ∀ l H', H l = none → (∀ c o, c ≠ a → H c = some o → H' c = some o) → DocAt C H' a l rl' [st0] → Q .non H'
def tEx0 (g : Rho → Option D) : TE := fun σ H Q => ∃ B, tP B .bas g σ H Q
theorem pe_ex0 {X : Cx} {e : Expr} {g : Rho → Option D} (h : ∀ B, DP X B .bas e g) : PE X e (tEx0 g) := ⟨fun pins s σ H Q I ⟨B, q⟩ => (h B).pe.run pins s σ H Q I q⟩
@[simp] def inF (chk : Rho → Option Out) : Addr → D → Option D := fun a rl => (chk [.raw (.ref a), .dat rl]).bind fun r => (match r with
  | .nx ρ => (selfD a .none ρ).bind fun _ => varD .bas 1 ρ
  | .rt _ _ => none)
theorem init_mk {P : Program} {w : World} {K : PySem.W.Frag} {mg : Str → Option Value} {base : Heap} {C : Addr} {nm qual y z : Str} {st : Stmt} {f : Addr} {fd : FuncData} {k : Nat} {chk : Rho → Option Out} {g0 : Rho → Option D} {st0 : D}
    (F : L2.Fun K nm qual st f fd) (S : FnScope [y, z] [y, z] (defScope st)) (cx : ClsX K C) (hg0 : ∀ ρ, g0 ρ = some st0) (hst0 : flat st0 = true)
    (hb : ∀ (B : Base) (cdv : Value) (A : Around) (outer : List PySem.Env) (s : Shared) (H : Hp) (E : XK), Room k (A.deeper (envOfC qual (defScope st) s.heap.objs.size f cdv)) →
      PSs (cxOf CX0 P w K mg base [y, z] qual (defScope st) f cdv A outer s H E).nox (defBody st) (tSeq (tS B chk) (tSeq (sFld K (tVar 0) (tP B .bas (varD .bas 1)) "rule") (sFld K (tVar 0) (tLst (tCons (tEx0 g0) tNil)) "states")))) :
    FnOk P w K mg base CX0 (k + 1) f fd [y, z] (spI C (inF chk) st0) := by
  refine F.ok S (fun vs H Q E h => ?_) (fun cdv A outer s H vs Q E hr h => ?_)
  · obtain ⟨a, dx, v, rl, x, rfl, _⟩ := h
    rfl
  · obtain ⟨a, dx, v, rl, rl', rfl, ha, r, e, fl, q⟩ := h
    obtain ⟨o, e1, e2⟩ := bind_some e
    cases o with
    | rt d ρ => cases e2
    | nx ρ1 =>
      obtain ⟨_, e3, e4⟩ := bind_some e2
      have g0' : Good ⟨H, NO, NO⟩ NO (L2.start [y, z] [.ref a, v]) H (.raw (.ref a) :: startR 1 [rl]) := good_startM (.one r) rfl (by simp)
      refine ⟨_, hb ⟨H, NO, NO⟩ cdv A outer s H E hr, NO, [.raw (.ref a), .dat rl], .nx ρ1, g0', e1, fun σ1 H1 O1 s1 g1 => ?_⟩
      have h0 := (slot0 g1 e3).2
      have sm : Same H H1 := fun c o e => g1.frame c o e fun z => z.elim
      refine ⟨O1, ρ1, rl', g1, e4, fun u H2 s2 r2 => ⟨_, h0, a, C, dx, [], rfl, s2 _ _ (sm _ _ ha), cx.cls, cx.nr, (by show 0 < 1000; decide), ?_⟩⟩
      have r3 : Rep NO H2 rl' u := r2
      have hlen : σ1.length = (σ1.length - 1) + 1 := by
        have k2 : 0 < σ1.length := by
          by_cases hz : 0 < σ1.length
          · exact hz
          · rw [List.getElem?_eq_none (by omega)] at h0; cases h0
        omega
      refine ⟨⟨_, NO, NO⟩, NO, _, st0, good_self h0 hlen, hg0 _, fun v4 H4 s4 r4 => ⟨(by show 1 ≤ sizeLine; rw [sizeLine_eq]; omega), fun l hl => ?_⟩⟩
      have ha4 := s4 a _ upd_same
      have nla : l ≠ a := by
        rintro rfl
        rw [hl] at ha4; cases ha4
      refine ⟨_, h0, a, C, dx, _, rfl, by rw [upd_ne nla.symm]; exact ha4, cx.cls, cx.ns, (by show 1 < 1000; decide), ?_⟩
      have hH2 : H2 a = some (.ins C dx []) := s2 _ _ (sm _ _ ha)
      -- from H2 to the end, apart from a
      have fr : ∀ c o, c ≠ a → H2 c = some o → (upd (upd H4 l (.lst [v4])) a (.ins C dx (putF "states" (.ref l) (putF "rule" u [])))) c = some o := fun c o n e => by
        have e5 := s4 c o (by rw [upd_ne n]; exact e)
        rw [upd_ne n, upd_ne (ne_of_none e5 hl)]
        exact e5
      have e0 : Rep NO (upd (upd H4 l (.lst [v4])) a (.ins C dx (putF "states" (.ref l) (putF "rule" u [])))) rl' u := rep_tups (fun b vs ez => fr b _ (by
        rintro rfl
        rw [hH2] at ez; cases ez) ez) rl' u fl r3
      have e5 : Rep NO (upd (upd H4 l (.lst [v4])) a (.ins C dx (putF "states" (.ref l) (putF "rule" u [])))) st0 v4 := rep_tups (fun b vs ez => by
        have n1 : b ≠ a := by
          rintro rfl
          rw [ha4] at ez; cases ez
        rw [upd_ne n1, upd_ne (ne_of_none ez hl)]
        exact ez) st0 v4 hst0 r4
      refine q l _ ?_ (fun c o n e => fr c o n (s2 _ _ (sm _ _ e))) ⟨⟨dx, u, upd_same, e0⟩, ⟨[v4], by rw [upd_ne nla]; exact upd_same, .one e5⟩, fl, by simp [flatL, hst0]⟩
      cases e6 : H l with
      | none => rfl
      | some o =>
        have e7 := s4 l o (by rw [upd_ne nla]; exact s2 _ _ (sm _ _ e6))
        rw [hl] at e7; cases e7
end DL

set_option autoImplicit false
namespace DL
section
open PySem PySem.W PySem.Calls PyProof.Rows Builtin
theorem callLen_own {prog : Program} {w : World} {A : Around} {E : Value → Shared → Prop} {s : Shared} {K : Frag} {x C f : Addr} {ox : Obj} {od : Option Obj} {Q : Value → Shared → Prop} (X : K.In s.heap) (I : InstAt s.heap x ox C od) (hs : findIn K (.ref C) "__len__" = some (some (.ref f))) (hf : isFn K (.ref f) = true)
    (h : wpAny (model prog w) A.in1 (call (.ref f) [.ref x]) (PySem.W.LenBack Q) E s) : wpAny (model prog w) A (call (.builtin "len") [.ref x]) Q E s := by
  refine Calls.call_function_entry kind_len plain_len entry_len (args_len1 _) ?_
  unfold Builtin.«len»
  refine wpAny_bind (m := oneArg "len" _) (wpAny_pure ?_)
  refine wpAny_bind (m := callSpecial? (.ref x) (Str.ofString "__len__")) (special_fn X I hs (beq_iff_eq.mp hf) (wpAny_mono h (fun r s' hr => ?_) fun _ _ y => y))
  cases r <;> first | exact hr.elim | skip
  rename_i n u
  obtain ⟨⟨h0, h1⟩, hq⟩ := hr
  refine wpAny_bind (wpAny_holding (wpAny_pure ?_))
  refine wpAny_bind (wpAny_letGo ?_)
  show wpAny _ _ (if n < 0 then _ else _) _ _ _
  rw [if_neg (by omega)]
  show wpAny _ _ (if n ≥ 2 ^ 63 then _ else _) _ _ _
  rw [if_neg (by omega)]
  exact wpAny_bind (wpAny_mkInt (wpAny_pure ⟨_, rfl, hq⟩))
end
open PySem PySem.Spec
open PyProof.Rows hiding St
open L2
/-! ## an own class's methods with *args, its __bool__, __len__, __contains__ -/
section
variable {X : Cx} {k : Nat} {C g : Addr} {sp : Sp} {m : Str} {e o : Expr} {es : List Expr} {ta : TE} {t : TA} {pos apos : Pos}
theorem pe_methR {pl : Sem Bool} (he : PE X o ta) (c : Cls X.K C) (hm : Meth X.K C m g) (F : FnR X.prog X.w X.K X.mg X.base CX0 k g sp) (hr : Room k X.A) (ha : PA X (e :: es) t)
    (hst : starEach (e :: es) X.env = (false, eval e X.env) :: starEach es X.env := by rfl) (hpl : (backTo pos (starEach es X.env)).any (·.1) = false := by rfl)
    (ht : eval (.Call (.Attribute o m apos) (e :: es) [] pos) X.env = (do
      let ov ← eval o X.env
      standAt apos.atName
      let (f, first) ← holding [ov] (getMethod ov m pl)
      callWith pos f first (backTo pos (starEach (e :: es) X.env)) (backToKw pos (keywordEach [] X.env))) := by rfl) :
    PE X (.Call (.Attribute o m apos) (e :: es) [] pos) (tMeth C m sp [] E0 ta t) := by
  refine ⟨fun pins s σ H Q I h => ?_⟩
  refine PySem.W.methodCall_KW (pl := pl) (thn (he.run pins s σ H _ I h) fun u s1 ⟨x, H1, I1, rx, a, dx, fs, ex, ea, l, q⟩ => ?_) ht
  subst ex
  obtain rfl : u = Value.ref a := rx
  refine getmeth_ok I1 ea c hm l ?_
  refine PySem.W.callWith_K (first := [.ref a]) (h₀ := X.base) I.ok.mod.kin hm.kp (thn (ha.run pos pins s1 σ H1 _ I1 q) fun us s2 ⟨vs, H2, I2, r, q2⟩ => ⟨I2.kIn, ?_⟩) hst hpl
  have q3 : sp (V.ref a :: (vs ++ [])) H2 Q E0 := q2
  rw [List.append_nil] at q3
  exact wpAny_call (run_fnR (us := .ref a :: us) (vs := .ref a :: vs) F hr pass0 I2 (.cons rfl r) q3)
structure OwnFn (K : PySem.W.Frag) (C : Addr) (m : Str) (g : Addr) : Prop where
  at_ : PySem.W.findIn K (.ref C) m = some (some (.ref g))
  fn : PySem.W.isFn K (.ref g) = true
def tOwnB (C : Addr) (sp : Sp) (ta : TE) : TT := fun σ H Q => ta σ H fun x H1 => ∃ a dx fs, x = .ref a ∧ H1 a = some (.ins C dx fs) ∧ sp [.ref a] H1 (fun v H2 => ∃ c, v = .bl c ∧ Q c H2) E0
theorem pt_own (he : PE X e ta) (O : OwnFn X.K C "__bool__" g) (F : FnR X.prog X.w X.K X.mg X.base CX0 k g sp) (hr : Room k X.A) (hi : ∀ whole, isTrue e X.env whole = (do let v ← whole; standAt e.pos; holding [v] (truthy v)) := by intro _; rfl) : PT X e (tOwnB C sp ta) := by
  refine ⟨fun pins s σ H Q I hw => ?_⟩
  refine isTrue_plain (thn (he.run pins s σ H _ I hw) fun v s1 ⟨x, H1, I1, r1, a, dx, fs, ex, ea, q⟩ => ?_) (hi _)
  subst ex
  obtain rfl : v = Value.ref a := r1
  obtain ⟨mA, Ob, _⟩ := ins_get I1.hok ea
  obtain ⟨od, J, _⟩ := Ob.look
  unfold truthy
  refine wpAny_bind (m := callSpecial? (.ref a) (Str.ofString "__bool__")) (PySem.W.special_fn I1.kIn J O.at_ (beq_iff_eq.mp O.fn) (thn (wpAny_call (run_fnR (us := [.ref a]) (vs := [.ref a]) F hr pass0 I1 (.cons rfl .nil) q)) fun r s2 ⟨z, H2, I2, rz, c, ez, q2⟩ => ?_))
  subst ez
  obtain rfl : r = Value.bool c := rz
  exact wpAny_pure ⟨H2, I2, q2⟩
def rInOwn (C : Addr) (sp : Sp) (f : Bool → Bool) : V → V → Hp → VK → Prop := fun x y H Q => ∃ a dx fs, y = .ref a ∧ H a = some (.ins C dx fs) ∧ sp [.ref a, x] H (fun v H2 => ∃ c, v = .bl c ∧ Q (.bl (f c)) H2) E0
theorem contains_own {pins : List (Addr × Obj)} {σ : St} {H : Hp} {s : Shared} {a : Addr} {x : V} {v : Value} {Q : Bool → Hp → Prop} {dx : Addr} {fs : List (Str × V)} (O : OwnFn X.K C "__contains__" g) (F : FnR X.prog X.w X.K X.mg X.base CX0 k g sp) (hr : Room k X.A) (I : Inv X pins σ H s) (rx : RelV x v)
    (ea : H a = some (.ins C dx fs)) (q : sp [.ref a, x] H (fun v H2 => ∃ c, v = .bl c ∧ Q c H2) E0) : wpAny (model X.prog X.w) X.A (contains (.ref a) v) (TP X pins σ Q) X.xe s := by
  obtain ⟨mA, Ob, _⟩ := ins_get I.hok ea
  obtain ⟨od, J, _⟩ := Ob.look
  unfold contains
  refine wpAny_holding (wpAny_bind (wpAny_bind (J.type.here ((PySem.W.looks_findIn I.kIn O.at_).here ?_))))
  rw [if_neg (by simp)]
  refine wpAny_bind (PySem.W.unlessNone_K I.kIn J O.at_ O.fn (thn (wpAny_call (run_fnR (us := [.ref a, v]) (vs := [.ref a, x]) F hr pass0 I (.cons rfl (.cons rx .nil)) q)) fun r s2 ⟨z, H2, I2, rz, c, ez, q2⟩ => ?_))
  subst ez
  obtain rfl : r = Value.bool c := rz
  exact wpAny_truthy_bool ⟨H2, I2, q2⟩
theorem op_inOwn (O : OwnFn X.K C "__contains__" g) (F : FnR X.prog X.w X.K X.mg X.base CX0 k g sp) (hr : Room k X.A) : OpR X (compareOp .In) (rInOwn C sp id) := by
  intro pins s σ H x y v u Q I rx ry ⟨a, dx, fs, ey, ea, q⟩
  subst ey
  obtain rfl : u = Value.ref a := ry
  exact wpAny_bind (thn (contains_own (Q := fun c H2 => Q (.bl c) H2) O F hr I rx ea q) fun c s2 ⟨H2, I2, q2⟩ => wpAny_pure ⟨.bl c, H2, I2, rfl, q2⟩)
theorem op_notInOwn (O : OwnFn X.K C "__contains__" g) (F : FnR X.prog X.w X.K X.mg X.base CX0 k g sp) (hr : Room k X.A) : OpR X (compareOp .NotIn) (rInOwn C sp not) := by
  intro pins s σ H x y v u Q I rx ry ⟨a, dx, fs, ey, ea, q⟩
  subst ey
  obtain rfl : u = Value.ref a := ry
  exact wpAny_bind (thn (contains_own (Q := fun c H2 => Q (.bl (!c)) H2) O F hr I rx ea q) fun c s2 ⟨H2, I2, q2⟩ => wpAny_pure ⟨.bl (!c), H2, I2, rfl, q2⟩)
theorem call_lenOwn (O : OwnFn X.K C "__len__" g) (F : FnR X.prog X.w X.K X.mg X.base CX0 k g sp) (hr : Room (k + 1) X.A) : CallR X (.builtin "len") (fun xs H Q => ∃ a dx fs, xs = [.ref a] ∧ H a = some (.ins C dx fs) ∧ sp [.ref a] H (fun v H2 => ∃ n : Int, v = .int n ∧ 0 ≤ n ∧ n < 2 ^ 63 ∧ Q (.int n) H2) E0) := by
  intro pins s σ H xs us Q I r ⟨a, dx, fs, ex, ea, q⟩
  subst ex
  obtain ⟨u, rfl, rx⟩ := vals1 r
  obtain rfl : u = Value.ref a := rx
  obtain ⟨mA, Ob, _⟩ := ins_get I.hok ea
  obtain ⟨od, J, _⟩ := Ob.look
  refine callLen_own (K := X.K) I.kIn J O.at_ O.fn (wpAny_call (codeAny_mono (F X.A.in1 X.stack s H [.ref a] [.ref a] _ E0 hr.in1 I.env0.in1 (.cons rfl .nil) q) fun r s' hq => ?_))
  cases r with
  | error er => exact (hq : False).elim
  | ok fl =>
    cases fl with
    | ret u =>
      obtain ⟨v, H', I3, rv, n, ev, h0, h1, q3⟩ := I.after hq
      subst ev
      obtain ⟨tk, rfl⟩ := rv
      exact ⟨⟨h0, h1⟩, .int n, H', I3.tok _, ⟨_, rfl⟩, q3⟩
    | next => exact False.elim hq
    | brk => exact False.elim hq
    | cont => exact False.elim hq
end
end DL

set_option autoImplicit false
namespace DL
open PySem PySem.Spec
open PyProof.Rows hiding St
open L2
/-! ## bool(a bool) -/
@[simp] def boolBD : List D → Option D
  | [.bool b] => some (.bool b)
  | _ => none
theorem n_boolB : OpN (fun xs H Q => (∃ i, xs = [.int i] ∧ Q (.bl (i != 0)) H) ∨ ∃ k, xs = [.bl k] ∧ Q (.bl k) H) boolBD := by
  intro O H ds z xs Q t hf rx q
  unfold boolBD at hf
  split at hf
  · cases hf
    obtain ⟨v, rfl, r⟩ := repL_one rx
    rw [rep_bool.mp r]
    exact .inr ⟨_, rfl, q _ H (Same.refl H) (rep_bool.mpr rfl)⟩
  · cases hf
/-! ## an int in a tuple of ints -/
@[simp] def inTD : D → D → Option D
  | .int i, .tuple ds => (intsOf ds).bind fun ns => some (.bool (ns.contains i))
  | _, _ => none
theorem inV_ints (i : Int) (ns : List Int) : inV (.int i) (ns.map V.int) = ns.contains i := by
  induction ns with
  | nil => rfl
  | cons n ns ih =>
    unfold inV at ih ⊢
    rw [List.map_cons, List.any_cons, ih, List.contains_cons]
    congr 1
    show (n == i) = (i == n)
    exact Bool.eq_iff_iff.mpr ⟨fun h => by rw [beq_iff_eq] at h ⊢; exact h.symm, fun h => by rw [beq_iff_eq] at h ⊢; exact h.symm⟩
theorem flat_ints : ∀ (ns : List Int), (ns.map V.int).all flatV = true
  | [] => rfl
  | n :: ns => by rw [List.map_cons, List.all_cons, flat_ints ns]; rfl
theorem o_inT {K : PySem.W.Frag} : Op2 (rIn K false) inTD := by
  intro O H d e z x y Q t hf rx ry q
  unfold inTD at hf
  split at hf
  · next i ds =>
    obtain ⟨ns, e1, e2⟩ := bind_some hf
    cases e2
    simp only [Rep] at ry
    obtain ⟨p, vs, rfl, hp, r⟩ := ry
    have e4 := ints_rep r e1
    subst e4
    rw [rep_int.mp rx]
    refine ⟨p, ns.map V.int, rfl, .inr (.of hp), rfl, flat_ints ns, ?_⟩
    rw [inV_ints]
    exact q _ H (Same.refl H) (rep_bool.mpr rfl)
  · cases hf
/-! ## a class's methods as the top has made them -/
structure MthAt (K : PySem.W.Frag) (C : Addr) (m qual : Str) (st : Stmt) (ps : List Str) : Prop where
  ex : ∃ f fd, L2.Fun K m qual st f fd ∧ Binds K fd ps [] ∧ PySem.W.findIn K (.ref C) m = some (some (.ref f)) ∧ PySem.W.isFn K (.ref f) = true ∧ PySem.W.fnIn K f = true
structure MStarAt (K : PySem.W.Frag) (C : Addr) (m qual : Str) (st : Stmt) (ps : List Str) (pv : Str) : Prop where
  ex : ∃ f fd, L2.Fun K m qual st f fd ∧ (∀ us rest : List Value, us.length = ps.length → bindArgs fd ⟨us ++ rest, []⟩ = (newTuple rest >>= fun t => pure (ps.zip us ++ [(pv, t)]))) ∧ PySem.W.findIn K (.ref C) m = some (some (.ref f)) ∧ PySem.W.isFn K (.ref f) = true ∧ PySem.W.fnIn K f = true
structure PrpAt (K : PySem.W.Frag) (C : Addr) (m qual : Str) (st : Stmt) : Prop where
  ex : ∃ p f fd, L2.Fun K m qual st f fd ∧ Binds K fd ["self"] [] ∧ PropOf K C m p f
structure MFn (P : Program) (w : World) (K : PySem.W.Frag) (mg : Str → Option Value) (base : Heap) (k : Nat) (C : Addr) (m : Str) (F : Addr → D → List D → List D → Option (D × List D)) : Prop where
  ex : ∃ f, FnR P w K mg base CX0 k f (spM C F) ∧ Meth K C m f ∧ PySem.W.fnIn K f = true
structure PFn (P : Program) (w : World) (K : PySem.W.Frag) (mg : Str → Option Value) (base : Heap) (k : Nat) (C : Addr) (m : Str) (F : Addr → D → List D → List D → Option (D × List D)) : Prop where
  ex : ∃ p f fd ps, FnOk P w K mg base CX0 k f fd ps (spM C F) ∧ Binds K fd ps [] ∧ PropOf K C m p f
structure IFn (P : Program) (w : World) (K : PySem.W.Frag) (mg : Str → Option Value) (base : Heap) (k : Nat) (C : Addr) (x : Str) (chk : Addr → D → Option D) (st0 : D) : Prop where
  ex : ∃ f fd ps, FnOk P w K mg base CX0 k f fd ps (spI C chk st0) ∧ Binds K fd ps [] ∧ Mk K C f ∧ mg x = some (.ref C)
section
variable {P : Program} {w : World} {K : PySem.W.Frag} {mg : Str → Option Value} {base : Heap} {k : Nat} {C : Addr} {m qual : Str} {F : Addr → D → List D → List D → Option (D × List D)} {st : Stmt} {ps : List Str} {pv : Str}
theorem mfn_of {f : Addr} {fd : FuncData} (Fu : L2.Fun K m qual st f fd) (b : Binds K fd ps []) (h1 : PySem.W.findIn K (.ref C) m = some (some (.ref f))) (h2 : PySem.W.isFn K (.ref f) = true) (h3 : PySem.W.fnIn K f = true) (G : FnOk P w K mg base CX0 k f fd ps (spM C F)) : MFn P w K mg base k C m F :=
  ⟨f, (G.raw b .nil).imp fun vs H Q E h => by rw [List.append_nil]; exact h, ⟨h1, h2, Fu.kp⟩, h3⟩
theorem mfn_star {f : Addr} {fd : FuncData} (Fu : L2.Fun K m qual st f fd) (h1 : PySem.W.findIn K (.ref C) m = some (some (.ref f))) (h2 : PySem.W.isFn K (.ref f) = true) (h3 : PySem.W.fnIn K f = true) (G : FnR P w K mg base CX0 k f (spM C F)) : MFn P w K mg base k C m F :=
  ⟨f, G, ⟨h1, h2, Fu.kp⟩, h3⟩
theorem MFn.mono {j : Nat} (G : MFn P w K mg base j C m F) (h : j ≤ k) : MFn P w K mg base k C m F := by
  obtain ⟨f, a, b, c⟩ := G.ex
  exact ⟨f, a.mono h, b, c⟩
theorem MFn.own (G : MFn P w K mg base k C m F) : ∃ f, FnR P w K mg base CX0 k f (spM C F) ∧ OwnFn K C m f := by
  obtain ⟨f, a, b, c⟩ := G.ex
  exact ⟨f, a, b.at_, b.fn⟩
theorem MFn.call (G : MFn P w K mg base k C "__call__" F) : ∃ f, FnR P w K mg base CX0 k f (spM C F) ∧ StX.CallO K C f := by
  obtain ⟨f, a, b, c⟩ := G.ex
  exact ⟨f, a, b.at_, b.fn, c⟩
end
/-! ## the calls that a body makes -/
theorem pe_keep {X : Cx} {B : Base} {C : Addr} {k j : Nat} {F : Addr → D → List D → List D → Option (D × List D)} {gs : Rho → Option (List D)} {o e : Expr} {es : List Expr} {pos apos : Pos} {m : Str} {pl : Sem Bool} (cx : ClsX X.K C) (G : MFn X.prog X.w X.K X.mg X.base k C m F) (hr : Room j X.A) (hk : k ≤ j) (ho : PE X o (tVar 0)) (ha : DPA X B .bas (e :: es) gs)
    (hst : starEach (e :: es) X.env = (false, eval e X.env) :: starEach es X.env := by rfl) (hpl : (backTo pos (starEach es X.env)).any (·.1) = false := by rfl)
    (ht : eval (.Call (.Attribute o m apos) (e :: es) [] pos) X.env = (do
      let ov ← eval o X.env
      standAt apos.atName
      let (f, first) ← holding [ov] (getMethod ov m pl)
      callWith pos f first (backTo pos (starEach (e :: es) X.env)) (backToKw pos (keywordEach [] X.env))) := by rfl) :
    PE X (.Call (.Attribute o m apos) (e :: es) [] pos) (tMeth C m (spM C F) [] E0 (tVar 0) (tPA B .bas gs)) := by
  obtain ⟨f, R, M, _⟩ := G.ex
  exact pe_methR (pl := pl) ho cx.cls M R (hr.mono hk) ha.pa hst hpl ht
/-! ## a short run of one document -/
def docF : Rho → Option Out := fun ρ => if ρ.length = 1 then some (.rt (.bool true) ρ) else none
def tDoc (X : Cx) (C : Addr) (chk : Addr → D → Option D) (st0 : D) (Fe Fc Fb Fi Fs Fl Ft : Addr → D → List D → List D → Option (D × List D)) : TS :=
  tSeq (tAsg (tMake C (spI C chk st0) [] E0 (tCons (tTup (tCons (tC (.int 3)) (tCons (tC (.int 10)) tNil))) tNil)) (gName 0))
  (tSeq (tIfS (tOr (tTest (tOp (rNeD X.K) (tMeth C "edit" (spM C Fe) [] E0 (tVar 0) (tCons (tC (.int 0)) (tCons (tC (.int 2)) tNil))) (tC (.int 2))))
    (tOr (tTest (tOp (rNeD X.K) (StX.tCallO X C (spM C Fc) E0 (tVar 0) (tCons (tC (.int 12)) tNil)) (tC (.int 0))))
    (tOr (tOwnB C (spM C Fb) (tVar 0)) (tTest (tOp (rInOwn C (spM C Fi) not) (tC (.int 12)) (tVar 0)))))) (tRet (tC (.bl false))) tNext)
  (tRet (tAndV (tOp (rEqD X.K) (tProp C (spM C Fs) [] E0 (tVar 0)) (tTup (tCons (tC (.int 12)) tNil)))
    (tAndV (tOp (rEqD X.K) (tCB (fun xs H Q => ∃ a dx fs, xs = [V.ref a] ∧ H a = some (.ins C dx fs) ∧ spM C Fl [.ref a] H (fun v H2 => ∃ n : Int, v = .int n ∧ 0 ≤ n ∧ n < 2 ^ 63 ∧ Q (.int n) H2) E0) (tCons (tVar 0) tNil)) (tC (.int 2)))
    (tOp (rEqD X.K) (tProp C (spM C Ft) [] E0 (tVar 0)) (tC (.int 12)))))))
theorem noOtr {H : Hp} : Otr NO H := fun _ z => z.elim
theorem ne_use {K : PySem.W.Frag} {H : Hp} {d e : D} {v y : V} {c : Bool} {Q : VK} (r1 : Rep NO H d v) (r2 : Rep NO H e y) (hf : neD d e = some (.bool c)) (h : ∀ H', Same H H' → Q (.bl c) H') : rNeD K v y H Q :=
  o_ne NO H d e (.bool c) v y Q noOtr hf r1 r2 fun z H' s r => by rw [rep_bool.mp r]; exact h H' s
theorem eq_use {K : PySem.W.Frag} {H : Hp} {d e : D} {v y : V} {c : Bool} {Q : VK} (r1 : Rep NO H d v) (r2 : Rep NO H e y) (hf : eqD d e = some (.bool c)) (h : ∀ H', Same H H' → Q (.bl c) H') : rEqD K v y H Q :=
  o_eq NO H d e (.bool c) v y Q noOtr hf r1 r2 fun z H' s r => by rw [rep_bool.mp r]; exact h H' s
theorem ne_tC {K : PySem.W.Frag} {H : Hp} {d : D} {i : Int} {v : V} {c : Bool} {Q : VK} {σ : L2.St} (r1 : Rep NO H d v) (hf : neD d (.int i) = some (.bool c)) (h : ∀ H', Same H H' → Q (.bl c) H') : tC (.int i) σ H (fun y H2 => rNeD K v y H2 Q) := ne_use r1 (rep_int.mpr rfl) hf h
theorem eq_tC {K : PySem.W.Frag} {H : Hp} {d : D} {i : Int} {v : V} {c : Bool} {Q : VK} {σ : L2.St} (r1 : Rep NO H d v) (hf : eqD d (.int i) = some (.bool c)) (h : ∀ H', Same H H' → Q (.bl c) H') : tC (.int i) σ H (fun y H2 => rEqD K v y H2 Q) := eq_use r1 (rep_int.mpr rfl) hf h
theorem eq_tT {K : PySem.W.Frag} {H : Hp} {d : D} {i : Int} {v : V} {c : Bool} {Q : VK} {σ : L2.St} (r1 : Rep NO H d v) (hf : eqD d (.tuple [.int i]) = some (.bool c)) (h : ∀ H', Same H H' → Q (.bl c) H') : tTup (tCons (tC (.int i)) tNil) σ H (fun y H2 => rEqD K v y H2 Q) :=
  ⟨(by show 1 ≤ sizeLine; rw [sizeLine_eq]; omega), fun p hp => eq_use (r1.same (same_upd hp)) (rep_tup hp (.one (rep_int.mpr rfl))) hf fun H' s => h H' ((same_upd hp).trans s)⟩
theorem ne2 : neD (.int 2) (.int 2) = some (.bool false) := by rfl
theorem ne0 : neD (.int 0) (.int 0) = some (.bool false) := by rfl
theorem eq12 : eqD (.tuple [.int 12]) (.tuple [.int 12]) = some (.bool true) := by rfl
theorem eq2 : eqD (.int 2) (.int 2) = some (.bool true) := by rfl
theorem eqt : eqD (.int 12) (.int 12) = some (.bool true) := by rfl
theorem doc_read {X : Cx} {B : Base} {C : Addr} {chk : Addr → D → Option D} {st0 rl : D} {sts1 sts2 : List D} {Fe Fc Fb Fi Fs Fl Ft : Addr → D → List D → List D → Option (D × List D)} (cx : ClsX X.K C)
    (hchk : ∀ a, chk a (.tuple [.int 3, .int 10]) = some rl) (frl : flat rl = true) (he : ∀ a, Fe a rl [st0] [.int 0, .int 2] = some (.int 2, sts1)) (hc : ∀ a, Fc a rl sts1 [.int 12] = some (.int 0, sts2)) (hb : ∀ a, Fb a rl sts2 [] = some (.bool false, sts2))
    (hi : ∀ a, Fi a rl sts2 [.int 12] = some (.bool true, sts2)) (hs : ∀ a, Fs a rl sts2 [] = some (.tuple [.int 12], sts2)) (hl : ∀ a, Fl a rl sts2 [] = some (.int 2, sts2)) (ht : ∀ a, Ft a rl sts2 [] = some (.int 12, sts2)) :
    ∀ (E : Ends) (σ : L2.St) (H : Hp), tS B docF E σ H → tDoc X C chk st0 Fe Fc Fb Fi Fs Fl Ft E σ H := by
  intro E σ H ⟨O, ρ, r, gd, e, q⟩
  unfold docF at e
  split at e
  case isFalse => cases e
  case isTrue hlen =>
  cases e
  have fin : ∀ H', Same H H' → E.rt (.bl true) H' := fun H' s => q (.bl true) σ H' O (.ext (.of gd s)) (gd.same s) (rep_bool.mpr rfl)
  refine ⟨(by show 2 ≤ sizeLine; rw [sizeLine_eq]; omega), fun t htn => ?_⟩
  intro x dx nx ndx nex
  have n1 : t ≠ x := by
    rintro rfl
    rw [upd_same] at nx; cases nx
  have n2 : t ≠ dx := by
    rintro rfl
    rw [upd_same] at ndx; cases ndx
  refine ⟨x, dx, .ref t, .tuple [.int 3, .int 10], rl, rfl, upd_same, ?_, hchk x, frl, fun l H2 hln kp D2 => ⟨rfl, ?_⟩⟩
  · simp only [Rep, RepL]
    exact ⟨t, _, rfl, by rw [upd_ne n1, upd_ne n2]; exact upd_same, _, _, rfl, rfl, _, _, rfl, rfl, rfl⟩
  have sm : Same H H2 := (same_upd htn).trans (Same.made nx ndx fun b o e n => kp b o n e)
  have hlH : H l = none := by
    cases e : H l with
    | none => rfl
    | some o =>
      have e2 := same_upd (o := .tup [.int 3, .int 10]) htn l o e
      rw [upd_ne (ne_of_none e2 nx), upd_ne (ne_of_none e2 ndx), e2] at hln
      cases hln
  have sB : ∀ {H'}, But l H2 H' → Same H H' := fun b c o e => b c o (ne_of_none e hlH) (sm c o e)
  have h0 : (σ.set 0 (some (V.ref x)))[(0 : Nat)]? = some (some (V.ref x)) := by
    rw [List.getElem?_set_self (by rw [gd.len, hlen]; omega)]
  show tSeq _ _ E (σ.set 0 (some (V.ref x))) H2
  generalize σ.set 0 (some (V.ref x)) = σ' at h0
  have ins : ∀ {H' : Hp} {sts : List D}, DocAt C H' x l rl sts → ∃ dx fs, H' x = some (.ins C dx fs) := fun d => by
    obtain ⟨dx, vr, h, _⟩ := d.ob
    exact ⟨dx, _, h⟩
  -- edit(0, 2) != 2
  obtain ⟨d1, v1, i1, _⟩ := D2.ob
  refine ⟨_, h0, x, d1, _, rfl, i1, dfs_no _ _ (by decide +kernel) (by decide +kernel), ?_⟩
  refine ⟨x, l, rl, [st0], [.int 0, .int 2], _, _, sts1, rfl, D2, .cons (rep_int.mpr rfl) (.one (rep_int.mpr rfl)), rfl, he x, fun v H3 b3 D3 r3 => ?_⟩
  refine ne_tC r3 ne2 fun H4 s4 => ⟨false, rfl, L2.iteF ?_⟩
  have D4 := D3.same s4
  have b4 := b3.trans (.same s4)
  -- (12) != 0
  obtain ⟨d5, f5, i5⟩ := ins D4
  refine ⟨_, h0, x, rfl, .inr ⟨d5, f5, i5⟩, ?_⟩
  refine ⟨x, l, rl, sts1, [.int 12], _, _, sts2, rfl, D4, .one (rep_int.mpr rfl), rfl, hc x, fun v H5 b5 D5 r5 => ?_⟩
  refine ne_tC r5 ne0 fun H6 s6 => ⟨false, rfl, L2.iteF ?_⟩
  have D6 := D5.same s6
  have b6 := b4.trans (b5.trans (.same s6))
  -- bool
  obtain ⟨d7, f7, i7⟩ := ins D6
  refine ⟨_, h0, x, d7, f7, rfl, i7, ?_⟩
  refine ⟨x, l, rl, sts2, [], _, _, sts2, rfl, D6, .nil, rfl, hb x, fun v H7 b7 D7 r7 => ⟨false, rep_bool.mp r7, L2.iteF ?_⟩⟩
  have b7' := b6.trans b7
  -- 12 not in
  obtain ⟨d8, f8, i8⟩ := ins D7
  refine ⟨_, h0, x, d8, f8, rfl, i8, ?_⟩
  refine ⟨x, l, rl, sts2, [.int 12], _, _, sts2, rfl, D7, .one (rep_int.mpr rfl), rfl, hi x, fun v H8 b8 D8 r8 => ⟨true, rep_bool.mp r8, false, rfl, L2.iteF ?_⟩⟩
  have b8' := b7'.trans b8
  -- saved == (12,)
  obtain ⟨d9, f9, i9⟩ := ins D8
  refine ⟨_, h0, x, d9, f9, rfl, i9, ?_⟩
  refine ⟨x, l, rl, sts2, [], _, _, sts2, rfl, D8, .nil, rfl, hs x, fun v H9 b9 D9 r9 => ?_⟩
  refine eq_tT r9 eq12 fun H10 s10 => ⟨true, rfl, L2.iteT ?_⟩
  have D10 := D9.same s10
  have b10 := b8'.trans (b9.trans (.same s10))
  -- len == 2
  obtain ⟨d11, f11, i11⟩ := ins D10
  refine ⟨_, h0, x, d11, f11, rfl, i11, ?_⟩
  refine ⟨x, l, rl, sts2, [], _, _, sts2, rfl, D10, .nil, rfl, hl x, fun v H11 b11 D11 r11 => ⟨2, rep_int.mp r11, by omega, by omega, ?_⟩⟩
  refine eq_tC (d := .int 2) (rep_int.mpr rfl) eq2 fun H12 s12 => ⟨true, rfl, L2.iteT ?_⟩
  have D12 := D11.same s12
  have b12 := b10.trans (b11.trans (.same s12))
  -- time == 12
  obtain ⟨d13, f13, i13⟩ := ins D12
  refine ⟨_, h0, x, d13, f13, rfl, i13, ?_⟩
  refine ⟨x, l, rl, sts2, [], _, _, sts2, rfl, D12, .nil, rfl, ht x, fun v H13 b13 D13 r13 => ?_⟩
  refine eq_tC r13 eqt fun H14 s14 => ?_
  exact fin _ (sB (b12.trans (b13.trans (.same s14))))
end DL

namespace My
open PySem PySem.Spec
open PyProof.Rows hiding St
open L2 DL
noncomputable section
def topS (i : Nat) : Stmt := PySem.Challenge.pw_autosaves_k22_examples_by_hand.main.body.getD i (.Pass ⟨0, 0, 0, 0⟩)
abbrev st_wall : Stmt := topS 0
theorem sc_wall : FnScope ["k"] ["k"] (defScope st_wall) := ⟨rfl, rfl, rfl, by decide +kernel, rfl, by decide +kernel, by decide +kernel⟩
abbrev st_in_range : Stmt := topS 16
theorem sc_in_range : FnScope ["value", "low", "high"] ["value", "low", "high"] (defScope st_in_range) := ⟨rfl, rfl, rfl, by decide +kernel, rfl, by decide +kernel, by decide +kernel⟩
abbrev st_is_rule : Stmt := topS 17
theorem sc_is_rule : FnScope ["value"] ["value"] (defScope st_is_rule) := ⟨rfl, rfl, rfl, by decide +kernel, rfl, by decide +kernel, by decide +kernel⟩
abbrev st_is_log : Stmt := topS 18
theorem sc_is_log : FnScope ["value", "time", "later"] ["value"] (defScope st_is_log) := ⟨rfl, rfl, rfl, by decide +kernel, rfl, by decide +kernel, by decide +kernel⟩
abbrev st_check_rule : Stmt := topS 19
theorem sc_check_rule : FnScope ["value"] ["value"] (defScope st_check_rule) := ⟨rfl, rfl, rfl, by decide +kernel, rfl, by decide +kernel, by decide +kernel⟩
abbrev st_check_log : Stmt := topS 20
theorem sc_check_log : FnScope ["value"] ["value"] (defScope st_check_log) := ⟨rfl, rfl, rfl, by decide +kernel, rfl, by decide +kernel, by decide +kernel⟩
abbrev st_check_time : Stmt := topS 21
theorem sc_check_time : FnScope ["value"] ["value"] (defScope st_check_time) := ⟨rfl, rfl, rfl, by decide +kernel, rfl, by decide +kernel, by decide +kernel⟩
abbrev st_check_number : Stmt := topS 22
theorem sc_check_number : FnScope ["value", "low", "high"] ["value", "low", "high"] (defScope st_check_number) := ⟨rfl, rfl, rfl, by decide +kernel, rfl, by decide +kernel, by decide +kernel⟩
abbrev st_played : Stmt := topS 23
theorem sc_played : FnScope ["rule", "log", "count", "idle", "unsaved", "rows", "done", "index", "time"] ["rule", "log"] (defScope st_played) := ⟨rfl, rfl, rfl, by decide +kernel, rfl, by decide +kernel, by decide +kernel⟩
abbrev st_unsaved_at : Stmt := topS 24
theorem sc_unsaved_at : FnScope ["rule", "log", "time", "part", "moment", "rows"] ["rule", "log", "time"] (defScope st_unsaved_at) := ⟨rfl, rfl, rfl, by decide +kernel, rfl, by decide +kernel, by decide +kernel⟩
abbrev st_unsaved : Stmt := topS 25
theorem sc_unsaved : FnScope ["rule", "log", "time"] ["rule", "log", "time"] (defScope st_unsaved) := ⟨rfl, rfl, rfl, by decide +kernel, rfl, by decide +kernel, by decide +kernel⟩
abbrev st_lost : Stmt := topS 26
theorem sc_lost : FnScope ["rule", "log", "time", "many", "moment"] ["rule", "log", "time"] (defScope st_lost) := ⟨rfl, rfl, rfl, by decide +kernel, rfl, by decide +kernel, by decide +kernel⟩
abbrev st_saves : Stmt := topS 27
theorem sc_saves : FnScope ["rule", "log"] ["rule", "log"] (defScope st_saves) := ⟨rfl, rfl, rfl, by decide +kernel, rfl, by decide +kernel, by decide +kernel⟩
abbrev st_saves_until : Stmt := topS 28
theorem sc_saves_until : FnScope ["rule", "log", "time", "moment", "reason"] ["rule", "log", "time"] (defScope st_saves_until) := ⟨rfl, rfl, rfl, by decide +kernel, rfl, by decide +kernel, by decide +kernel⟩
abbrev st_walk : Stmt := topS 29
theorem sc_walk : GScope ["rule", "log"] ["rule", "log"] (defScope st_walk) := ⟨rfl, rfl, rfl, by decide +kernel, rfl, by decide +kernel, by decide +kernel⟩
abbrev st_total_saves : Stmt := topS 30
theorem sc_total_saves : FnScope ["rule", "logs", "log"] ["rule", "logs"] (defScope st_total_saves) := ⟨rfl, rfl, rfl, by decide +kernel, rfl, by decide +kernel, by decide +kernel⟩
abbrev st_most_unsaved : Stmt := topS 31
theorem sc_most_unsaved : FnScope ["rule", "log"] ["rule", "log"] (defScope st_most_unsaved) := ⟨rfl, rfl, rfl, by decide +kernel, rfl, by decide +kernel, by decide +kernel⟩
abbrev st_least_unsaved : Stmt := topS 32
theorem sc_least_unsaved : FnScope ["log", "time", "rules", "rule"] ["log", "time", "rules"] (defScope st_least_unsaved) := ⟨rfl, rfl, rfl, by decide +kernel, rfl, by decide +kernel, by decide +kernel⟩
abbrev st_check_index : Stmt := topS 34
theorem sc_check_index : FnScope ["log", "index"] ["log", "index"] (defScope st_check_index) := ⟨rfl, rfl, rfl, by decide +kernel, rfl, by decide +kernel, by decide +kernel⟩
abbrev st_both : Stmt := topS 35
theorem sc_both : FnScope ["rule", "log", "index"] ["rule", "log", "index"] (defScope st_both) := ⟨rfl, rfl, rfl, by decide +kernel, rfl, by decide +kernel, by decide +kernel⟩
abbrev st_left_over : Stmt := topS 36
theorem sc_left_over : FnScope ["times", "others", "rest", "found", "time"] ["times", "others"] (defScope st_left_over) := ⟨rfl, rfl, rfl, by decide +kernel, rfl, by decide +kernel, by decide +kernel⟩
abbrev st_changed_saves : Stmt := topS 37
theorem sc_changed_saves : FnScope ["rule", "log", "index", "other", "before", "time", "reason", "after"] ["rule", "log", "index"] (defScope st_changed_saves) := ⟨rfl, rfl, rfl, by decide +kernel, rfl, by decide +kernel, by decide +kernel⟩
abbrev st_alike_from : Stmt := topS 38
theorem sc_alike_from : FnScope ["rule", "log", "index", "other", "moments", "time", "reason", "found", "moment", "later"] ["rule", "log", "index"] (defScope st_alike_from) := ⟨rfl, rfl, rfl, by decide +kernel, rfl, by decide +kernel, by decide +kernel⟩
abbrev st_longest_run : Stmt := topS 40
theorem sc_longest_run : FnScope ["log", "idle", "best", "run", "index", "time"] ["log", "idle"] (defScope st_longest_run) := ⟨rfl, rfl, rfl, by decide +kernel, rfl, by decide +kernel, by decide +kernel⟩
abbrev st_loosest : Stmt := topS 41
theorem sc_loosest : FnScope ["log", "count", "most", "gaps", "time", "later", "idle", "gap"] ["log", "count", "most"] (defScope st_loosest) := ⟨rfl, rfl, rfl, by decide +kernel, rfl, by decide +kernel, by decide +kernel⟩
abbrev st_longest_idle : Stmt := topS 42
theorem sc_longest_idle : FnScope ["log", "count", "most"] ["log", "count", "most"] (defScope st_longest_idle) := ⟨rfl, rfl, rfl, by decide +kernel, rfl, by decide +kernel, by decide +kernel⟩
abbrev st_fewest_saves : Stmt := topS 43
theorem sc_fewest_saves : FnScope ["log", "most", "rules", "count", "rule"] ["log", "most"] (defScope st_fewest_saves) := ⟨rfl, rfl, rfl, by decide +kernel, rfl, by decide +kernel, by decide +kernel⟩
abbrev st_common : Stmt := topS 45
theorem sc_common : FnScope ["one", "other"] ["one", "other"] (defScope st_common) := ⟨rfl, rfl, rfl, by decide +kernel, rfl, by decide +kernel, by decide +kernel⟩
abbrev st_excess : Stmt := topS 46
theorem sc_excess : FnScope ["first", "second"] ["first", "second"] (defScope st_excess) := ⟨rfl, rfl, rfl, by decide +kernel, rfl, by decide +kernel, by decide +kernel⟩
abbrev st_largest_excess : Stmt := topS 47
theorem sc_largest_excess : FnScope ["first", "second"] ["first", "second"] (defScope st_largest_excess) := ⟨rfl, rfl, rfl, by decide +kernel, rfl, by decide +kernel, by decide +kernel⟩
abbrev st_never_loses_more : Stmt := topS 48
theorem sc_never_loses_more : FnScope ["first", "second"] ["first", "second"] (defScope st_never_loses_more) := ⟨rfl, rfl, rfl, by decide +kernel, rfl, by decide +kernel, by decide +kernel⟩
abbrev st_saves_at_most : Stmt := topS 49
theorem sc_saves_at_most : FnScope ["first", "second"] ["first", "second"] (defScope st_saves_at_most) := ⟨rfl, rfl, rfl, by decide +kernel, rfl, by decide +kernel, by decide +kernel⟩
abbrev st_never_saves_more : Stmt := topS 50
theorem sc_never_saves_more : FnScope ["first", "second"] ["first", "second"] (defScope st_never_saves_more) := ⟨rfl, rfl, rfl, by decide +kernel, rfl, by decide +kernel, by decide +kernel⟩
abbrev st_alike : Stmt := topS 51
theorem sc_alike : FnScope ["first", "second"] ["first", "second"] (defScope st_alike) := ⟨rfl, rfl, rfl, by decide +kernel, rfl, by decide +kernel, by decide +kernel⟩
abbrev st_rounded_up : Stmt := topS 54
theorem sc_rounded_up : FnScope ["number", "size"] ["number", "size"] (defScope st_rounded_up) := ⟨rfl, rfl, rfl, by decide +kernel, rfl, by decide +kernel, by decide +kernel⟩
abbrev st_regular_saves : Stmt := topS 55
theorem sc_regular_saves : FnScope ["rule", "gap", "number"] ["rule", "gap", "number"] (defScope st_regular_saves) := ⟨rfl, rfl, rfl, by decide +kernel, rfl, by decide +kernel, by decide +kernel⟩
abbrev st_are_times : Stmt := topS 61
theorem sc_are_times : FnScope ["value", "time", "later"] ["value"] (defScope st_are_times) := ⟨rfl, rfl, rfl, by decide +kernel, rfl, by decide +kernel, by decide +kernel⟩
abbrev st_are_losses : Stmt := topS 62
theorem sc_are_losses : FnScope ["value", "row"] ["value"] (defScope st_are_losses) := ⟨rfl, rfl, rfl, by decide +kernel, rfl, by decide +kernel, by decide +kernel⟩
abbrev st_times_of : Stmt := topS 63
theorem sc_times_of : FnScope ["rule", "log", "time", "reason"] ["rule", "log"] (defScope st_times_of) := ⟨rfl, rfl, rfl, by decide +kernel, rfl, by decide +kernel, by decide +kernel⟩
abbrev st_ranges_of : Stmt := topS 64
theorem sc_ranges_of : FnScope ["log", "gaps", "time", "later", "starts", "gap"] ["log"] (defScope st_ranges_of) := ⟨rfl, rfl, rfl, by decide +kernel, rfl, by decide +kernel, by decide +kernel⟩
abbrev st_idle_range : Stmt := topS 65
theorem sc_idle_range : FnScope ["count", "log", "times", "low", "high", "done", "shifts", "seen", "time", "reason", "idle"] ["count", "log", "times", "low", "high"] (defScope st_idle_range) := ⟨rfl, rfl, rfl, by decide +kernel, rfl, by decide +kernel, by decide +kernel⟩
abbrev st_fitting_rules : Stmt := topS 66
theorem sc_fitting_rules : FnScope ["log", "times", "found", "count", "low", "high", "good"] ["log", "times"] (defScope st_fitting_rules) := ⟨rfl, rfl, rfl, by decide +kernel, rfl, by decide +kernel, by decide +kernel⟩
abbrev st_wrong_losses : Stmt := topS 67
theorem sc_wrong_losses : FnScope ["log", "seen", "rules", "count", "idle", "failed", "rule", "at", "row", "index"] ["log", "seen"] (defScope st_wrong_losses) := ⟨rfl, rfl, rfl, by decide +kernel, rfl, by decide +kernel, by decide +kernel⟩
abbrev st_law_well : Stmt := topS 69
theorem sc_law_well : FnScope ["_law_cell", "_law_turn"] ["_law_cell", "_law_turn"] (defScope st_law_well) := ⟨rfl, rfl, rfl, by decide +kernel, rfl, by decide +kernel, by decide +kernel⟩
abbrev st_law_take : Stmt := topS 70
theorem sc_law_take : FnScope ["_law_bag", "_law_many", "_law_found", "_law_p", "_law_n"] ["_law_bag", "_law_many"] (defScope st_law_take) := ⟨rfl, rfl, rfl, by decide +kernel, rfl, by decide +kernel, by decide +kernel⟩
abbrev st_law_bags : Stmt := topS 71
theorem sc_law_bags : FnScope ["_law_script", "_law_most", "_law_k", "_law_cell"] ["_law_script", "_law_most"] (defScope st_law_bags) := ⟨rfl, rfl, rfl, by decide +kernel, rfl, by decide +kernel, by decide +kernel⟩
abbrev st_law_first_right : Stmt := topS 72
theorem sc_law_first_right : FnScope ["_law_rule", "_law_log"] ["_law_rule", "_law_log"] (defScope st_law_first_right) := ⟨rfl, rfl, rfl, by decide +kernel, rfl, by decide +kernel, by decide +kernel⟩
abbrev st_law_second_right : Stmt := topS 73
theorem sc_law_second_right : FnScope ["_law_paper"] [] (defScope st_law_second_right) := ⟨rfl, rfl, rfl, by decide +kernel, rfl, by decide +kernel, by decide +kernel⟩
abbrev st_law_plain_right : Stmt := topS 74
theorem sc_law_plain_right : FnScope ["_law_count", "_law_idle", "_law_many", "_law_rule", "_law_heap", "_law_row", "_law_turn"] ["_law_count", "_law_idle", "_law_many"] (defScope st_law_plain_right) := ⟨rfl, rfl, rfl, by decide +kernel, rfl, by decide +kernel, by decide +kernel⟩
abbrev st_law : Stmt := topS 75
theorem sc_law : FnScope ["_law_script", "_law_bag"] ["_law_script"] (defScope st_law) := ⟨rfl, rfl, rfl, by decide +kernel, rfl, by decide +kernel, by decide +kernel⟩
abbrev st_m_init : Stmt := inClass (topS 57) 1
theorem sc_m_init : FnScope ["self", "rule"] ["self", "rule"] (defScope st_m_init) := ⟨rfl, rfl, rfl, by decide +kernel, rfl, by decide +kernel, by decide +kernel⟩
abbrev st_m_keep : Stmt := inClass (topS 57) 3
theorem sc_m_keep : FnScope ["self", "edits", "time", "done", "moment", "reason"] ["self", "edits", "time"] (defScope st_m_keep) := ⟨rfl, rfl, rfl, by decide +kernel, rfl, by decide +kernel, by decide +kernel⟩
abbrev st_m_edit : Stmt := inClass (topS 57) 4
theorem sc_m_edit : FnScope ["self", "times", "edits", "time", "moment"] ["self", "times"] (defScope st_m_edit) := ⟨rfl, rfl, rfl, by decide +kernel, rfl, by decide +kernel, by decide +kernel⟩
abbrev st_m_call : Stmt := inClass (topS 57) 5
theorem sc_m_call : FnScope ["self", "time", "edits", "present"] ["self", "time"] (defScope st_m_call) := ⟨rfl, rfl, rfl, by decide +kernel, rfl, by decide +kernel, by decide +kernel⟩
abbrev st_m_time : Stmt := inClass (topS 57) 8
theorem sc_m_time : FnScope ["self"] ["self"] (defScope st_m_time) := ⟨rfl, rfl, rfl, by decide +kernel, rfl, by decide +kernel, by decide +kernel⟩
abbrev st_m_saved : Stmt := inClass (topS 57) 10
theorem sc_m_saved : FnScope ["self"] ["self"] (defScope st_m_saved) := ⟨rfl, rfl, rfl, by decide +kernel, rfl, by decide +kernel, by decide +kernel⟩
abbrev st_m_contains : Stmt := inClass (topS 57) 11
theorem sc_m_contains : FnScope ["self", "time"] ["self", "time"] (defScope st_m_contains) := ⟨rfl, rfl, rfl, by decide +kernel, rfl, by decide +kernel, by decide +kernel⟩
abbrev st_m_bool : Stmt := inClass (topS 57) 12
theorem sc_m_bool : FnScope ["self"] ["self"] (defScope st_m_bool) := ⟨rfl, rfl, rfl, by decide +kernel, rfl, by decide +kernel, by decide +kernel⟩
abbrev st_m_len : Stmt := inClass (topS 57) 13
theorem sc_m_len : FnScope ["self"] ["self"] (defScope st_m_len) := ⟨rfl, rfl, rfl, by decide +kernel, rfl, by decide +kernel, by decide +kernel⟩
structure DocT (K : PySem.W.Frag) (mg : Str → Option Value) (C : Addr) : Prop where
  cx : ClsX K C
  mg_ : mg "Document" = some (.ref C)
  mks : PySem.W.makesIn K C = true
  kp : PySem.W.keepIn K (.ref C) = true
  m_init : MthAt K C "__init__" "Document.__init__" st_m_init ["self", "rule"]
  m_keep : MthAt K C "keep" "Document.keep" st_m_keep ["self", "edits", "time"]
  m_edit : MStarAt K C "edit" "Document.edit" st_m_edit ["self"] "times"
  m_call : MthAt K C "__call__" "Document.__call__" st_m_call ["self", "time"]
  m_time : PrpAt K C "time" "Document.time" st_m_time
  m_saved : PrpAt K C "saved" "Document.saved" st_m_saved
  m_contains : MthAt K C "__contains__" "Document.__contains__" st_m_contains ["self", "time"]
  m_bool : MthAt K C "__bool__" "Document.__bool__" st_m_bool ["self"]
  m_len : MthAt K C "__len__" "Document.__len__" st_m_len ["self"]
structure Txt (K : PySem.W.Frag) (mg : Str → Option Value) : Prop where
  d_wall : DefAt K mg "_wall" st_wall ["k"]
  d_in_range : DefAt K mg "in_range" st_in_range ["value", "low", "high"]
  d_is_rule : DefAt K mg "is_rule" st_is_rule ["value"]
  d_is_log : DefAt K mg "is_log" st_is_log ["value"]
  d_check_rule : DefAt K mg "check_rule" st_check_rule ["value"]
  d_check_log : DefAt K mg "check_log" st_check_log ["value"]
  d_check_time : DefAt K mg "check_time" st_check_time ["value"]
  d_check_number : DefAt K mg "check_number" st_check_number ["value", "low", "high"]
  d_played : DefAt K mg "played" st_played ["rule", "log"]
  d_unsaved_at : DefAt K mg "unsaved_at" st_unsaved_at ["rule", "log", "time"]
  d_unsaved : DefAt K mg "unsaved" st_unsaved ["rule", "log", "time"]
  d_lost : DefAt K mg "lost" st_lost ["rule", "log", "time"]
  d_saves : DefAt K mg "saves" st_saves ["rule", "log"]
  d_saves_until : DefAt K mg "saves_until" st_saves_until ["rule", "log", "time"]
  d_walk : DefAt K mg "walk" st_walk ["rule", "log"]
  d_total_saves : StarAt K mg "total_saves" st_total_saves ["rule"] "logs"
  d_most_unsaved : DefAt K mg "most_unsaved" st_most_unsaved ["rule", "log"]
  d_least_unsaved : StarAt K mg "least_unsaved" st_least_unsaved ["log", "time"] "rules"
  d_check_index : DefAt K mg "check_index" st_check_index ["log", "index"]
  d_both : DefAt K mg "both" st_both ["rule", "log", "index"]
  d_left_over : DefAt K mg "left_over" st_left_over ["times", "others"]
  d_changed_saves : DefAt K mg "changed_saves" st_changed_saves ["rule", "log", "index"]
  d_alike_from : DefAt K mg "alike_from" st_alike_from ["rule", "log", "index"]
  d_longest_run : DefAt K mg "longest_run" st_longest_run ["log", "idle"]
  d_loosest : DefAt K mg "loosest" st_loosest ["log", "count", "most"]
  d_longest_idle : DefAt K mg "longest_idle" st_longest_idle ["log", "count", "most"]
  d_fewest_saves : DefAt K mg "fewest_saves" st_fewest_saves ["log", "most"]
  d_common : DefAt K mg "common" st_common ["one", "other"]
  d_excess : DefAt K mg "excess" st_excess ["first", "second"]
  d_largest_excess : DefAt K mg "largest_excess" st_largest_excess ["first", "second"]
  d_never_loses_more : DefAt K mg "never_loses_more" st_never_loses_more ["first", "second"]
  d_saves_at_most : DefAt K mg "saves_at_most" st_saves_at_most ["first", "second"]
  d_never_saves_more : DefAt K mg "never_saves_more" st_never_saves_more ["first", "second"]
  d_alike : DefAt K mg "alike" st_alike ["first", "second"]
  d_rounded_up : DefAt K mg "rounded_up" st_rounded_up ["number", "size"]
  d_regular_saves : DefAt K mg "regular_saves" st_regular_saves ["rule", "gap", "number"]
  d_are_times : DefAt K mg "are_times" st_are_times ["value"]
  d_are_losses : DefAt K mg "are_losses" st_are_losses ["value"]
  d_times_of : DefAt K mg "times_of" st_times_of ["rule", "log"]
  d_ranges_of : DefAt K mg "ranges_of" st_ranges_of ["log"]
  d_idle_range : DefAt K mg "idle_range" st_idle_range ["count", "log", "times", "low", "high"]
  d_fitting_rules : DefAt K mg "fitting_rules" st_fitting_rules ["log", "times"]
  d_wrong_losses : DefAt K mg "wrong_losses" st_wrong_losses ["log", "seen"]
  d_law_well : DefAt K mg "_law_well" st_law_well ["_law_cell", "_law_turn"]
  d_law_take : DefAt K mg "_law_take" st_law_take ["_law_bag", "_law_many"]
  d_law_bags : DefAt K mg "_law_bags" st_law_bags ["_law_script", "_law_most"]
  d_law_first_right : DefAt K mg "_law_first_right" st_law_first_right ["_law_rule", "_law_log"]
  d_law_second_right : DefAt K mg "_law_second_right" st_law_second_right []
  d_law_plain_right : DefAt K mg "_law_plain_right" st_law_plain_right ["_law_count", "_law_idle", "_law_many"]
  z_all : mg "all" = none
  z_bool : mg "bool" = none
  z_enumerate : mg "enumerate" = none
  z_int : mg "int" = none
  z_isinstance : mg "isinstance" = none
  z_len : mg "len" = none
  z_list : mg "list" = none
  z_max : mg "max" = none
  z_min : mg "min" = none
  z_range : mg "range" = none
  z_set : mg "set" = none
  z_sorted : mg "sorted" = none
  z_sum : mg "sum" = none
  z_tuple : mg "tuple" = none
  z_zip : mg "zip" = none
  doc : ∃ C, DocT K mg C
  g_FAR : ∃ t, mg "FAR" = some (.int 1000000000 t)
  g_LAST : ∃ t, mg "LAST" = some (.int 1000000 t)
  g_MOST : ∃ t, mg "MOST" = some (.int 1000000000000000 t)
  g_MOST_COUNT : ∃ t, mg "MOST_COUNT" = some (.int 20 t)
  g_MOST_EDITS : ∃ t, mg "MOST_EDITS" = some (.int 60 t)
  g_MOST_IDLE : ∃ t, mg "MOST_IDLE" = some (.int 1000 t)
  g_MOST_SEEN : ∃ t, mg "MOST_SEEN" = some (.int 20 t)
  g_SHORT : ∃ t, mg "SHORT" = some (.int 60 t)
section
variable {P : Program} {w : World} {K : PySem.W.Frag} {mg : Str → Option Value} {base : Heap}
def l_wall_1 : Rho → Option Out :=
    skipF
def b_wall : Rho → Option Out :=
    (whlL (toT (tstD (kD (.bool true)))) l_wall_1 400)
def F_wall : List D → Option D := runF 1 1 b_wall
theorem fn_wall (T : Txt K mg) : Fn P w K mg base 1 "_wall" F_wall := by
  obtain ⟨f, fd, F, bi, hm⟩ := T.d_wall.ex
  exact fn_mk F sc_wall bi hm rfl rfl (fun B cdv A outer s H E hr =>
      (ds_one (ds_while PassesOwn.never (det_of (dt_val (m := .bas) dp_bool)) (ds_one ds_pass))))
def b_in_range : Rho → Option Out :=
    (retP (andV (b1D (varD .bas 0) (isTyD .int)) (andV (b1D (b1D (varD .bas 0) (isTyD .bool)) notD) (chD leD leD (varD .bas 1) (varD .bas 0) (varD .bas 2)))))
def F_in_range : List D → Option D := runF 3 3 b_in_range
theorem fn_in_range (T : Txt K mg) : Fn P w K mg base 1 "in_range" F_in_range := by
  obtain ⟨f, fd, F, bi, hm⟩ := T.d_in_range.ex
  exact fn_mk F sc_in_range bi hm rfl rfl (fun B cdv A outer s H E hr =>
      (ds_one (ds_ret (dp_and (dp_isi (T := .int) T.z_isinstance T.z_int rfl (dp_var 0)) (dp_and (dp_not (dp_isi (T := .bool) T.z_isinstance T.z_bool rfl (dp_var 0))) (dp_one (dp_chain op_le o_cmp op_le o_cmp (dp_var 1) (dp_var 0) (dp_var 2))))))))
def b_is_rule : Rho → Option Out :=
    (seqF (iteF (toT (orT (notT (tstD (b1D (varD .bas 0) (isTyD .tuple)))) (tstD (b2D (nD (consA (varD .bas 0) nilA) lenD) (kD (.int 2)) neD)))) (retP (kD (.bool false))) skipF)
    (retP (andV (nD (consA (b2D (varD .bas 0) (kD (.int 0)) ixD) (consA (kD (.int 1)) (consA (kD (.int 20)) nilA))) F_in_range) (nD (consA (b2D (varD .bas 0) (kD (.int 1)) ixD) (consA (kD (.int 1)) (consA (kD (.int 1000)) nilA))) F_in_range))))
def F_is_rule : List D → Option D := runF 1 1 b_is_rule
theorem fn_is_rule (T : Txt K mg) : Fn P w K mg base 2 "is_rule" F_is_rule := by
  obtain ⟨f, fd, F, bi, hm⟩ := T.d_is_rule.ex
  exact fn_mk F sc_is_rule bi hm rfl rfl (fun B cdv A outer s H E hr =>
      (ds_cons (ds_if (det_of (dt_w (dw_or (dt_not (dt_val (m := .bas) (dp_isi (T := .tuple) T.z_isinstance T.z_tuple rfl (dp_var 0)))) (dw_or1 (dt_cmp (m := .bas) (op_neD hr.units) o_ne (dp_b call_len_seq n_len T.z_len PySem.boot_len (dpa_cons (dp_var 0) dpa_nil)) dp_int (nomark _)))))) (ds_one (ds_ret dp_bool)) ds_nil)
      (ds_one (ds_ret (dp_and (dp_call (fn_in_range T) hr (by decide) (dpa_cons (dp_ix ix_seq o_ix (dp_var 0) dp_int) (dpa_cons dp_int (dpa_cons (dp_glob (T.g_MOST_COUNT.choose_spec) ⟨_, rfl⟩) dpa_nil)))) (dp_one (dp_call (fn_in_range T) hr (by decide) (dpa_cons (dp_ix ix_seq o_ix (dp_var 0) dp_int) (dpa_cons dp_int (dpa_cons (dp_glob (T.g_MOST_IDLE.choose_spec) ⟨_, rfl⟩) dpa_nil))))))))))
def c_is_log_1 : Rho → Option D :=
    (lcD (itD (varD .str 0)) [1] (bName 1) yesT (nD (consA (varD .str 1) (consA (kD (.int 0)) (consA (kD (.int 1000000)) nilA))) F_in_range))
def c_is_log_2 : Rho → Option D :=
    (lcD (zipI (varD .str 0) (slD (varD .str 0) (soO (kD (.int 1))) noO)) [1, 2] (bTup 2 (bCons (bName 1) (bCons (bName 2) bNil))) yesT (b2D (varD .str 1) (varD .str 2) leD))
def b_is_log : Rho → Option Out :=
    (seqF (iteF (toT (orT (notT (tstD (b1D (varD .bas 0) (isTyD .tuple)))) (tstD (b2D (nD (consA (varD .bas 0) nilA) lenD) (kD (.int 60)) gtD)))) (retP (kD (.bool false))) skipF)
    (seqF (iteF (toT (notT (tstD (nD (consA c_is_log_1 nilA) allD)))) (retP (kD (.bool false))) skipF)
    (retP (nD (consA c_is_log_2 nilA) allD))))
def F_is_log : List D → Option D := runF 1 3 b_is_log
theorem fn_is_log (T : Txt K mg) : Fn P w K mg base 2 "is_log" F_is_log := by
  obtain ⟨f, fd, F, bi, hm⟩ := T.d_is_log.ex
  exact fn_mk F sc_is_log bi hm rfl rfl (fun B cdv A outer s H E hr =>
      (ds_cons (ds_if (det_of (dt_w (dw_or (dt_not (dt_val (m := .bas) (dp_isi (T := .tuple) T.z_isinstance T.z_tuple rfl (dp_var 0)))) (dw_or1 (dt_cmp (m := .bas) op_gt o_cmp (dp_b call_len_seq n_len T.z_len PySem.boot_len (dpa_cons (dp_var 0) dpa_nil)) (dp_glob (T.g_MOST_EDITS.choose_spec) ⟨_, rfl⟩) (nomark _)))))) (ds_one (ds_ret dp_bool)) ds_nil)
      (ds_cons (ds_if (det_of (dt_not (dt_val (m := .bas) (dp_b (cr_all rfl) n_all T.z_all boot_all (dpa_cons (dp_lc (own := [("time", 1)]) rfl sc_is_log.nd (dic_of (di_seq (dp_var 0))) (blkOk_by (own := [("time", 1)]) (N := ["value", "time", "later"]) (sc := defScope st_is_log) (by decide +kernel)) (by decide) (fun _ _ _ _ _ => (dg_name (i := 1) sc_is_log.nd rfl (by first | exact Or.inl rfl | exact Or.inr rfl) (by first | exact .inl rfl | exact .inr rfl))) (fun _ _ _ _ _ => dts_nil) (fun _ _ _ _ _ => (dp_call (fn_in_range T) hr (by decide) (dpa_cons (dp_var 1) (dpa_cons dp_int (dpa_cons (dp_glob (T.g_LAST.choose_spec) ⟨_, rfl⟩) dpa_nil)))))) dpa_nil))))) (ds_one (ds_ret dp_bool)) ds_nil)
      (ds_one (ds_ret (dp_b (cr_all rfl) n_all T.z_all boot_all (dpa_cons (dp_lc (own := [("time", 1), ("later", 2)]) rfl sc_is_log.nd (dic_of (di_zip T.z_zip (dp_var 0) (dp_slice (dp_var 0) (do_some dp_int) do_none))) (blkOk_by (own := [("time", 1), ("later", 2)]) (N := ["value", "time", "later"]) (sc := defScope st_is_log) (by decide +kernel)) (by decide) (fun _ _ _ _ _ => (dg_tup rfl (dgs_cons (dg_name (i := 1) sc_is_log.nd rfl (by first | exact Or.inl rfl | exact Or.inr rfl) (by first | exact .inl rfl | exact .inr rfl)) (dgs_cons (dg_name (i := 2) sc_is_log.nd rfl (by first | exact Or.inl rfl | exact Or.inr rfl) (by first | exact .inl rfl | exact .inr rfl)) dgs_nil)))) (fun _ _ _ _ _ => dts_nil) (fun _ _ _ _ _ => (dp_cmp op_le o_cmp (dp_var 1) (dp_var 2) (nomark _)))) dpa_nil)))))))
def b_check_rule : Rho → Option Out :=
    (iteF (toT (notT (tstD (nD (consA (varD .bas 0) nilA) F_is_rule)))) neverF skipF)
def F_check_rule : List D → Option D := runF 1 1 b_check_rule
theorem fn_check_rule (T : Txt K mg) : Fn P w K mg base 3 "check_rule" F_check_rule := by
  obtain ⟨f, fd, F, bi, hm⟩ := T.d_check_rule.ex
  exact fn_mk F sc_check_rule bi hm rfl rfl (fun B cdv A outer s H E hr =>
      (ds_one (ds_if (det_of (dt_not (dt_val (m := .bas) (dp_call (fn_is_rule T) hr (by decide) (dpa_cons (dp_var 0) dpa_nil))))) (ds_one ds_never) ds_nil)))
def b_check_log : Rho → Option Out :=
    (iteF (toT (notT (tstD (nD (consA (varD .bas 0) nilA) F_is_log)))) neverF skipF)
def F_check_log : List D → Option D := runF 1 1 b_check_log
theorem fn_check_log (T : Txt K mg) : Fn P w K mg base 3 "check_log" F_check_log := by
  obtain ⟨f, fd, F, bi, hm⟩ := T.d_check_log.ex
  exact fn_mk F sc_check_log bi hm rfl rfl (fun B cdv A outer s H E hr =>
      (ds_one (ds_if (det_of (dt_not (dt_val (m := .bas) (dp_call (fn_is_log T) hr (by decide) (dpa_cons (dp_var 0) dpa_nil))))) (ds_one ds_never) ds_nil)))
def b_check_time : Rho → Option Out :=
    (iteF (toT (notT (tstD (nD (consA (varD .bas 0) (consA (kD (.int 0)) (consA (kD (.int 1000000000)) nilA))) F_in_range)))) neverF skipF)
def F_check_time : List D → Option D := runF 1 1 b_check_time
theorem fn_check_time (T : Txt K mg) : Fn P w K mg base 2 "check_time" F_check_time := by
  obtain ⟨f, fd, F, bi, hm⟩ := T.d_check_time.ex
  exact fn_mk F sc_check_time bi hm rfl rfl (fun B cdv A outer s H E hr =>
      (ds_one (ds_if (det_of (dt_not (dt_val (m := .bas) (dp_call (fn_in_range T) hr (by decide) (dpa_cons (dp_var 0) (dpa_cons dp_int (dpa_cons (dp_glob (T.g_FAR.choose_spec) ⟨_, rfl⟩) dpa_nil))))))) (ds_one ds_never) ds_nil)))
def b_check_number : Rho → Option Out :=
    (iteF (toT (notT (tstD (nD (consA (varD .bas 0) (consA (varD .bas 1) (consA (varD .bas 2) nilA))) F_in_range)))) neverF skipF)
def F_check_number : List D → Option D := runF 3 3 b_check_number
theorem fn_check_number (T : Txt K mg) : Fn P w K mg base 2 "check_number" F_check_number := by
  obtain ⟨f, fd, F, bi, hm⟩ := T.d_check_number.ex
  exact fn_mk F sc_check_number bi hm rfl rfl (fun B cdv A outer s H E hr =>
      (ds_one (ds_if (det_of (dt_not (dt_val (m := .bas) (dp_call (fn_in_range T) hr (by decide) (dpa_cons (dp_var 0) (dpa_cons (dp_var 1) (dpa_cons (dp_var 2) dpa_nil))))))) (ds_one ds_never) ds_nil)))
def l_played_1 : Rho → Option Out :=
    (seqF (iteF (toT (andT (tstD (b2D (varD .bas 4) (kD (.int 0)) gtD)) (tstD (b2D (b2D (varD .bas 8) (b2D (varD .bas 1) (b2D (varD .bas 7) (kD (.int 1)) subD) ixD) subD) (varD .bas 3) geD)))) (seqF (appF 6 (nD (consA (b2D (b2D (varD .str 1) (b2D (varD .str 7) (kD (.int 1)) subD) ixD) (varD .str 3) addD) (consA (kD (.str "idle")) nilA)) tupD))
    (setP 4 (kD (.int 0)))) skipF)
    (seqF (setP 4 (b2D (varD .str 4) (kD (.int 1)) addD))
    (seqF (iteF (toT (tstD (b2D (varD .bas 4) (varD .bas 2) eqD))) (seqF (appF 6 (nD (consA (varD .str 8) (consA (kD (.str "count")) nilA)) tupD))
    (setP 4 (kD (.int 0)))) skipF)
    (appF 5 (varD .str 4)))))
def b_played : Rho → Option Out :=
    (seqF (asgF (toE (varD .str 0)) (bTup 2 (bCons (bName 2) (bCons (bName 3) bNil))))
    (seqF (parDOO 4 5 6 (kD (.int 0)))
    (seqF (forF (toI (enI (varD .str 1))) (bTup 2 (bCons (bName 7) (bCons (bName 8) bNil))) l_played_1)
    (seqF (iteF (toT (tstD (b2D (varD .bas 4) (kD (.int 0)) gtD))) (appF 6 (nD (consA (b2D (b2D (varD .str 1) (b1D (kD (.int 1)) negD) ixD) (varD .str 3) addD) (consA (kD (.str "idle")) nilA)) tupD)) skipF)
    (retP (nD (consA (varD .bas 5) (consA (varD .bas 6) nilA)) tupD))))))
def F_played : List D → Option D := runF 2 9 b_played
theorem fn_played (T : Txt K mg) : Fn P w K mg base 1 "played" F_played := by
  obtain ⟨f, fd, F, bi, hm⟩ := T.d_played.ex
  exact fn_mk F sc_played bi hm rfl rfl (fun B cdv A outer s H E hr =>
      (ds_cons (ds_asg (de_of (dp_var 0)) (dg_tup rfl (dgs_cons (dg_name (i := 2) sc_played.nd rfl (by first | exact Or.inl rfl | exact Or.inr rfl) (by first | exact .inl rfl | exact .inr rfl)) (dgs_cons (dg_name (i := 3) sc_played.nd rfl (by first | exact Or.inl rfl | exact Or.inr rfl) (by first | exact .inl rfl | exact .inr rfl)) dgs_nil))))
      (ds_cons (ds_parDOO rfl sc_played.nd rfl rfl rfl (by decide) (by decide) (by decide) rfl rfl rfl dp_int rfl)
      (ds_cons (ds_for PassesOwn.never rfl (die_of (di_enum T.z_enumerate (dp_var 1))) (dg_tup rfl (dgs_cons (dg_name (i := 7) sc_played.nd rfl (by first | exact Or.inl rfl | exact Or.inr rfl) (by first | exact .inl rfl | exact .inr rfl)) (dgs_cons (dg_name (i := 8) sc_played.nd rfl (by first | exact Or.inl rfl | exact Or.inr rfl) (by first | exact .inl rfl | exact .inr rfl)) dgs_nil))) (ds_cons (ds_if (det_of (dt_w (dw_and (dt_cmp (m := .bas) op_gt o_cmp (dp_var 4) dp_int (nomark _)) (dw_and1 (dt_cmp (m := .bas) op_ge o_cmp (dp_op op_sub o_sub (dp_var 8) (dp_ix ix_seq o_ix (dp_var 1) (dp_op op_sub o_sub (dp_var 7) dp_int))) (dp_var 3) (nomark _)))))) (ds_cons (ds_app (i := 6) rfl (dp_tup (dpa_cons (dp_op op_addA o_add (dp_ix ix_seq o_ix (dp_var 1) (dp_op op_sub o_sub (dp_var 7) dp_int)) (dp_var 3)) (dpa_cons dp_str dpa_nil))))
      (ds_one (ds_setP (i := 4) sc_played.nd rfl (by first | exact Or.inl rfl | exact Or.inr rfl) dp_int))) ds_nil)
      (ds_cons (ds_setP (i := 4) sc_played.nd rfl (by first | exact Or.inl rfl | exact Or.inr rfl) (dp_op op_addA o_add (dp_var 4) dp_int))
      (ds_cons (ds_if (det_of (dt_cmp (m := .bas) (op_eqD hr.units) o_eq (dp_var 4) (dp_var 2) (nomark _))) (ds_cons (ds_app (i := 6) rfl (dp_tup (dpa_cons (dp_var 8) (dpa_cons dp_str dpa_nil))))
      (ds_one (ds_setP (i := 4) sc_played.nd rfl (by first | exact Or.inl rfl | exact Or.inr rfl) dp_int))) ds_nil)
      (ds_one (ds_app (i := 5) rfl (dp_var 4)))))))
      (ds_cons (ds_if (det_of (dt_cmp (m := .bas) op_gt o_cmp (dp_var 4) dp_int (nomark _))) (ds_one (ds_app (i := 6) rfl (dp_tup (dpa_cons (dp_op op_addA o_add (dp_ix ix_seq o_ix (dp_var 1) (dp_un un_neg o_neg dp_int)) (dp_var 3)) (dpa_cons dp_str dpa_nil))))) ds_nil)
      (ds_one (ds_ret (dp_tup (dpa_cons (dp_var 5) (dpa_cons (dp_var 6) dpa_nil))))))))))
def c_unsaved_at_1 : Rho → Option D :=
    (lcD (itD (varD .str 1)) [4] (bName 4) (tstD (b2D (varD .bas 4) (varD .bas 2) leD)) (varD .str 4))
def b_unsaved_at : Rho → Option Out :=
    (seqF (setP 3 (nD (consA c_unsaved_at_1 nilA) tupleD))
    (seqF (setP 5 (b2D (nD (consA (varD .str 0) (consA (varD .str 3) nilA)) F_played) (kD (.int 0)) ixD))
    (retP (ifD (orT (tstD (b2D (varD .bas 5) (nD nilA lstD) eqD)) (tstD (b2D (b2D (varD .bas 2) (b2D (varD .bas 3) (b1D (kD (.int 1)) negD) ixD) subD) (b2D (varD .bas 0) (kD (.int 1)) ixD) geD))) (kD (.int 0)) (b2D (varD .bas 5) (b1D (kD (.int 1)) negD) ixD)))))
def F_unsaved_at : List D → Option D := runF 3 6 b_unsaved_at
theorem fn_unsaved_at (T : Txt K mg) : Fn P w K mg base 2 "unsaved_at" F_unsaved_at := by
  obtain ⟨f, fd, F, bi, hm⟩ := T.d_unsaved_at.ex
  exact fn_mk F sc_unsaved_at bi hm rfl rfl (fun B cdv A outer s H E hr =>
      (ds_cons (ds_setP (i := 3) sc_unsaved_at.nd rfl (by first | exact Or.inl rfl | exact Or.inr rfl) (dp_ty call_tuple_of n_tuple T.z_tuple boot_tuple (dpa_cons (dp_lc (own := [("moment", 4)]) rfl sc_unsaved_at.nd (dic_of (di_seq (dp_var 1))) (blkOk_by (own := [("moment", 4)]) (N := ["rule", "log", "time", "part", "moment", "rows"]) (sc := defScope st_unsaved_at) (by decide +kernel)) (by decide) (fun _ _ _ _ _ => (dg_name (i := 4) sc_unsaved_at.nd rfl (by first | exact Or.inl rfl | exact Or.inr rfl) (by first | exact .inl rfl | exact .inr rfl))) (fun _ _ _ _ _ => (dts_one (dt_cmp (m := .bas) op_le o_cmp (dp_var 4) (dp_var 2) (nomark _)))) (fun _ _ _ _ _ => (dp_var 4))) dpa_nil)))
      (ds_cons (ds_setP (i := 5) sc_unsaved_at.nd rfl (by first | exact Or.inl rfl | exact Or.inr rfl) (dp_ix ix_seq o_ix (dp_call (fn_played T) hr (by decide) (dpa_cons (dp_var 0) (dpa_cons (dp_var 3) dpa_nil))) dp_int))
      (ds_one (ds_ret (dp_if (dt_w (dw_or (dt_cmp (m := .bas) (op_eqD hr.units) o_eq (dp_var 5) (dp_lst dpa_nil) (nomark _)) (dw_or1 (dt_cmp (m := .bas) op_ge o_cmp (dp_op op_sub o_sub (dp_var 2) (dp_ix ix_seq o_ix (dp_var 3) (dp_un un_neg o_neg dp_int))) (dp_ix ix_seq o_ix (dp_var 0) dp_int) (nomark _))))) dp_int (dp_ix ix_seq o_ix (dp_var 5) (dp_un un_neg o_neg dp_int))))))))
def b_unsaved : Rho → Option Out :=
    (seqF (dropE (toE (nD (consA (varD .str 0) nilA) F_check_rule)))
    (seqF (dropE (toE (nD (consA (varD .str 1) nilA) F_check_log)))
    (seqF (dropE (toE (nD (consA (varD .str 2) nilA) F_check_time)))
    (retP (nD (consA (varD .bas 0) (consA (varD .bas 1) (consA (varD .bas 2) nilA))) F_unsaved_at)))))
def F_unsaved : List D → Option D := runF 3 3 b_unsaved
theorem fn_unsaved (T : Txt K mg) : Fn P w K mg base 4 "unsaved" F_unsaved := by
  obtain ⟨f, fd, F, bi, hm⟩ := T.d_unsaved.ex
  exact fn_mk F sc_unsaved bi hm rfl rfl (fun B cdv A outer s H E hr =>
      (ds_cons (ds_expr (de_of (dp_call (fn_check_rule T) hr (by decide) (dpa_cons (dp_var 0) dpa_nil))))
      (ds_cons (ds_expr (de_of (dp_call (fn_check_log T) hr (by decide) (dpa_cons (dp_var 1) dpa_nil))))
      (ds_cons (ds_expr (de_of (dp_call (fn_check_time T) hr (by decide) (dpa_cons (dp_var 2) dpa_nil))))
      (ds_one (ds_ret (dp_call (fn_unsaved_at T) hr (by decide) (dpa_cons (dp_var 0) (dpa_cons (dp_var 1) (dpa_cons (dp_var 2) dpa_nil))))))))))
def c_lost_1 : Rho → Option D :=
    (lcD (itD (varD .str 1)) [4] (bName 4) (tstD (b2D (varD .bas 4) (varD .bas 2) leD)) (varD .str 4))
def b_lost : Rho → Option Out :=
    (seqF (dropE (toE (nD (consA (varD .str 0) nilA) F_check_rule)))
    (seqF (dropE (toE (nD (consA (varD .str 1) nilA) F_check_log)))
    (seqF (dropE (toE (nD (consA (varD .str 2) nilA) F_check_time)))
    (seqF (setP 3 (nD (consA c_lost_1 nilA) lenD))
    (retP (nD (consA (b2D (varD .bas 3) (nD (consA (varD .bas 0) (consA (varD .bas 1) (consA (varD .bas 2) nilA))) F_unsaved_at) subD) (consA (varD .bas 3) nilA)) lrgD))))))
def F_lost : List D → Option D := runF 3 5 b_lost
theorem fn_lost (T : Txt K mg) : Fn P w K mg base 4 "lost" F_lost := by
  obtain ⟨f, fd, F, bi, hm⟩ := T.d_lost.ex
  exact fn_mk F sc_lost bi hm rfl rfl (fun B cdv A outer s H E hr =>
      (ds_cons (ds_expr (de_of (dp_call (fn_check_rule T) hr (by decide) (dpa_cons (dp_var 0) dpa_nil))))
      (ds_cons (ds_expr (de_of (dp_call (fn_check_log T) hr (by decide) (dpa_cons (dp_var 1) dpa_nil))))
      (ds_cons (ds_expr (de_of (dp_call (fn_check_time T) hr (by decide) (dpa_cons (dp_var 2) dpa_nil))))
      (ds_cons (ds_setP (i := 3) sc_lost.nd rfl (by first | exact Or.inl rfl | exact Or.inr rfl) (dp_b call_len_seq n_len T.z_len PySem.boot_len (dpa_cons (dp_lc (own := [("moment", 4)]) rfl sc_lost.nd (dic_of (di_seq (dp_var 1))) (blkOk_by (own := [("moment", 4)]) (N := ["rule", "log", "time", "many", "moment"]) (sc := defScope st_lost) (by decide +kernel)) (by decide) (fun _ _ _ _ _ => (dg_name (i := 4) sc_lost.nd rfl (by first | exact Or.inl rfl | exact Or.inr rfl) (by first | exact .inl rfl | exact .inr rfl))) (fun _ _ _ _ _ => (dts_one (dt_cmp (m := .bas) op_le o_cmp (dp_var 4) (dp_var 2) (nomark _)))) (fun _ _ _ _ _ => (dp_var 4))) dpa_nil)))
      (ds_one (ds_ret (dp_lrg2 rfl T.z_list T.z_range (dp_op op_sub o_sub (dp_var 3) (dp_call (fn_unsaved_at T) hr (by decide) (dpa_cons (dp_var 0) (dpa_cons (dp_var 1) (dpa_cons (dp_var 2) dpa_nil))))) (dp_var 3)))))))))
def b_saves : Rho → Option Out :=
    (seqF (dropE (toE (nD (consA (varD .str 0) nilA) F_check_rule)))
    (seqF (dropE (toE (nD (consA (varD .str 1) nilA) F_check_log)))
    (retP (b2D (nD (consA (varD .bas 0) (consA (varD .bas 1) nilA)) F_played) (kD (.int 1)) ixD))))
def F_saves : List D → Option D := runF 2 2 b_saves
theorem fn_saves (T : Txt K mg) : Fn P w K mg base 4 "saves" F_saves := by
  obtain ⟨f, fd, F, bi, hm⟩ := T.d_saves.ex
  exact fn_mk F sc_saves bi hm rfl rfl (fun B cdv A outer s H E hr =>
      (ds_cons (ds_expr (de_of (dp_call (fn_check_rule T) hr (by decide) (dpa_cons (dp_var 0) dpa_nil))))
      (ds_cons (ds_expr (de_of (dp_call (fn_check_log T) hr (by decide) (dpa_cons (dp_var 1) dpa_nil))))
      (ds_one (ds_ret (dp_ix ix_seq o_ix (dp_call (fn_played T) hr (by decide) (dpa_cons (dp_var 0) (dpa_cons (dp_var 1) dpa_nil))) dp_int))))))
def c_saves_until_1 : Rho → Option D :=
    (lcD (itD (b2D (nD (consA (varD .str 0) (consA (varD .str 1) nilA)) F_played) (kD (.int 1)) ixD)) [3, 4] (bTup 2 (bCons (bName 3) (bCons (bName 4) bNil))) (tstD (b2D (varD .bas 3) (varD .bas 2) leD)) (varD .str 3))
def b_saves_until : Rho → Option Out :=
    (seqF (dropE (toE (nD (consA (varD .str 0) nilA) F_check_rule)))
    (seqF (dropE (toE (nD (consA (varD .str 1) nilA) F_check_log)))
    (seqF (dropE (toE (nD (consA (varD .str 2) nilA) F_check_time)))
    (retP (nD (consA c_saves_until_1 nilA) lenD)))))
def F_saves_until : List D → Option D := runF 3 5 b_saves_until
theorem fn_saves_until (T : Txt K mg) : Fn P w K mg base 4 "saves_until" F_saves_until := by
  obtain ⟨f, fd, F, bi, hm⟩ := T.d_saves_until.ex
  exact fn_mk F sc_saves_until bi hm rfl rfl (fun B cdv A outer s H E hr =>
      (ds_cons (ds_expr (de_of (dp_call (fn_check_rule T) hr (by decide) (dpa_cons (dp_var 0) dpa_nil))))
      (ds_cons (ds_expr (de_of (dp_call (fn_check_log T) hr (by decide) (dpa_cons (dp_var 1) dpa_nil))))
      (ds_cons (ds_expr (de_of (dp_call (fn_check_time T) hr (by decide) (dpa_cons (dp_var 2) dpa_nil))))
      (ds_one (ds_ret (dp_b call_len_seq n_len T.z_len PySem.boot_len (dpa_cons (dp_lc (own := [("moment", 3), ("reason", 4)]) rfl sc_saves_until.nd (dic_of (di_seq (dp_ix ix_seq o_ix (dp_call (fn_played T) hr (by decide) (dpa_cons (dp_var 0) (dpa_cons (dp_var 1) dpa_nil))) dp_int))) (blkOk_by (own := [("moment", 3), ("reason", 4)]) (N := ["rule", "log", "time", "moment", "reason"]) (sc := defScope st_saves_until) (by decide +kernel)) (by decide) (fun _ _ _ _ _ => (dg_tup rfl (dgs_cons (dg_name (i := 3) sc_saves_until.nd rfl (by first | exact Or.inl rfl | exact Or.inr rfl) (by first | exact .inl rfl | exact .inr rfl)) (dgs_cons (dg_name (i := 4) sc_saves_until.nd rfl (by first | exact Or.inl rfl | exact Or.inr rfl) (by first | exact .inl rfl | exact .inr rfl)) dgs_nil)))) (fun _ _ _ _ _ => (dts_one (dt_cmp (m := .bas) op_le o_cmp (dp_var 3) (dp_var 2) (nomark _)))) (fun _ _ _ _ _ => (dp_var 3))) dpa_nil))))))))
def y1_walk : Rho → Option Out := (dropE (toE (nD (consA (varD .str 0) nilA) F_check_rule)))
def y2_walk : Rho → Option Out := (dropE (toE (nD (consA (varD .str 1) nilA) F_check_log)))
def y3_walk : Rho → Option D := (b2D (nD (consA (varD .bas 0) (consA (varD .bas 1) nilA)) F_played) (kD (.int 0)) ixD)
def G_walk : List D → Option (List Int) := genF 2 2 y1_walk y2_walk y3_walk
theorem gn_walk (T : Txt K mg) : GenFn P w K mg base 5 "walk" G_walk := by
  obtain ⟨f, fd, F, bi, hm⟩ := T.d_walk.ex
  exact genfn_mk F sc_walk bi hm rfl rfl rfl (by decide) (fun B cdv A outer s H E hr =>
      (ds_expr (de_of (dp_call (fn_check_rule T) hr (by decide) (dpa_cons (dp_var 0) dpa_nil))))) (fun B cdv A outer s H E hr =>
      (ds_expr (de_of (dp_call (fn_check_log T) hr (by decide) (dpa_cons (dp_var 1) dpa_nil))))) (fun B cdv A outer s H E hr =>
      (dp_ix ix_seq o_ix (dp_call (fn_played T) hr (by decide) (dpa_cons (dp_var 0) (dpa_cons (dp_var 1) dpa_nil))) dp_int))
theorem gl_walk (T : Txt K mg) : GenLs P w K mg base 4 "walk" G_walk := by
  obtain ⟨f, fd, F, bi, hm⟩ := T.d_walk.ex
  exact genls_mk F sc_walk bi hm rfl rfl rfl (by decide) (fun B cdv A outer s H E pn hr =>
      (ds_expr (de_of (dp_call (fn_check_rule T) hr (by decide) (dpa_cons (dp_var 0) dpa_nil))))) (fun B cdv A outer s H E pn hr =>
      (ds_expr (de_of (dp_call (fn_check_log T) hr (by decide) (dpa_cons (dp_var 1) dpa_nil))))) (fun B cdv A outer s H E pn hr =>
      (dp_ix ix_seq o_ix (dp_call (fn_played T) hr (by decide) (dpa_cons (dp_var 0) (dpa_cons (dp_var 1) dpa_nil))) dp_int))
def l_total_saves_1 : Rho → Option Out :=
    (dropE (toE (nD (consA (varD .str 2) nilA) F_check_log)))
def c_total_saves_1 : Rho → Option D :=
    (lcD (itD (varD .str 1)) [2] (bName 2) yesT (nD (consA (b2D (nD (consA (varD .str 0) (consA (varD .str 2) nilA)) F_played) (kD (.int 1)) ixD) nilA) lenD))
def b_total_saves : Rho → Option Out :=
    (seqF (dropE (toE (nD (consA (varD .str 0) nilA) F_check_rule)))
    (seqF (forF (toI (itD (varD .str 1))) (bName 2) l_total_saves_1)
    (retP (nD (consA c_total_saves_1 nilA) sumD))))
def F_total_saves : List D → Option D := starF 1 3 b_total_saves
theorem fn_total_saves (T : Txt K mg) : FnV P w K mg base 4 "total_saves" F_total_saves := by
  obtain ⟨f, fd, F, bi, hm⟩ := T.d_total_saves.ex
  exact fnv_mk F sc_total_saves bi hm rfl rfl (fun B cdv A outer s H E hr =>
      (ds_cons (ds_expr (de_of (dp_call (fn_check_rule T) hr (by decide) (dpa_cons (dp_var 0) dpa_nil))))
      (ds_cons (ds_for PassesOwn.never rfl (die_of (di_seq (dp_var 1))) (dg_name (i := 2) sc_total_saves.nd rfl (by first | exact Or.inl rfl | exact Or.inr rfl) (by first | exact .inl rfl | exact .inr rfl)) (ds_one (ds_expr (de_of (dp_call (fn_check_log T) hr (by decide) (dpa_cons (dp_var 2) dpa_nil))))))
      (ds_one (ds_ret (dp_b (cr_sum rfl) n_sum T.z_sum boot_sum (dpa_cons (dp_lc (own := [("log", 2)]) rfl sc_total_saves.nd (dic_of (di_seq (dp_var 1))) (blkOk_by (own := [("log", 2)]) (N := ["rule", "logs", "log"]) (sc := defScope st_total_saves) (by decide +kernel)) (by decide) (fun _ _ _ _ _ => (dg_name (i := 2) sc_total_saves.nd rfl (by first | exact Or.inl rfl | exact Or.inr rfl) (by first | exact .inl rfl | exact .inr rfl))) (fun _ _ _ _ _ => dts_nil) (fun _ _ _ _ _ => (dp_b call_len_seq n_len T.z_len PySem.boot_len (dpa_cons (dp_ix ix_seq o_ix (dp_call (fn_played T) hr (by decide) (dpa_cons (dp_var 0) (dpa_cons (dp_var 2) dpa_nil))) dp_int) dpa_nil)))) dpa_nil)))))))
def b_most_unsaved : Rho → Option Out :=
    (seqF (dropE (toE (nD (consA (varD .str 0) nilA) F_check_rule)))
    (seqF (dropE (toE (nD (consA (varD .str 1) nilA) F_check_log)))
    (retP (nD (consA (b2D (nD (consA (kD (.int 0)) nilA) lstD) (b2D (nD (consA (varD .bas 0) (consA (varD .bas 1) nilA)) F_played) (kD (.int 0)) ixD) addD) nilA) maxD))))
def F_most_unsaved : List D → Option D := runF 2 2 b_most_unsaved
theorem fn_most_unsaved (T : Txt K mg) : Fn P w K mg base 4 "most_unsaved" F_most_unsaved := by
  obtain ⟨f, fd, F, bi, hm⟩ := T.d_most_unsaved.ex
  exact fn_mk F sc_most_unsaved bi hm rfl rfl (fun B cdv A outer s H E hr =>
      (ds_cons (ds_expr (de_of (dp_call (fn_check_rule T) hr (by decide) (dpa_cons (dp_var 0) dpa_nil))))
      (ds_cons (ds_expr (de_of (dp_call (fn_check_log T) hr (by decide) (dpa_cons (dp_var 1) dpa_nil))))
      (ds_one (ds_ret (dp_b (cr_max rfl) n_max T.z_max boot_max (dpa_cons (dp_op op_addA o_add (dp_lst (dpa_cons dp_int dpa_nil)) (dp_ix ix_seq o_ix (dp_call (fn_played T) hr (by decide) (dpa_cons (dp_var 0) (dpa_cons (dp_var 1) dpa_nil))) dp_int)) dpa_nil)))))))
def l_least_unsaved_1 : Rho → Option Out :=
    (dropE (toE (nD (consA (varD .str 3) nilA) F_check_rule)))
def c_least_unsaved_1 : Rho → Option D :=
    (lcD (itD (varD .str 2)) [3] (bName 3) yesT (nD (consA (varD .str 3) (consA (varD .str 0) (consA (varD .str 1) nilA))) F_unsaved_at))
def b_least_unsaved : Rho → Option Out :=
    (seqF (dropE (toE (nD (consA (varD .str 0) nilA) F_check_log)))
    (seqF (dropE (toE (nD (consA (varD .str 1) nilA) F_check_time)))
    (seqF (forF (toI (itD (varD .str 2))) (bName 3) l_least_unsaved_1)
    (seqF (iteF (toT (tstD (b2D (varD .bas 2) (nD nilA tupD) eqD))) neverF skipF)
    (retP (nD (consA c_least_unsaved_1 nilA) minD))))))
def F_least_unsaved : List D → Option D := starF 2 4 b_least_unsaved
theorem fn_least_unsaved (T : Txt K mg) : FnV P w K mg base 4 "least_unsaved" F_least_unsaved := by
  obtain ⟨f, fd, F, bi, hm⟩ := T.d_least_unsaved.ex
  exact fnv_mk F sc_least_unsaved bi hm rfl rfl (fun B cdv A outer s H E hr =>
      (ds_cons (ds_expr (de_of (dp_call (fn_check_log T) hr (by decide) (dpa_cons (dp_var 0) dpa_nil))))
      (ds_cons (ds_expr (de_of (dp_call (fn_check_time T) hr (by decide) (dpa_cons (dp_var 1) dpa_nil))))
      (ds_cons (ds_for PassesOwn.never rfl (die_of (di_seq (dp_var 2))) (dg_name (i := 3) sc_least_unsaved.nd rfl (by first | exact Or.inl rfl | exact Or.inr rfl) (by first | exact .inl rfl | exact .inr rfl)) (ds_one (ds_expr (de_of (dp_call (fn_check_rule T) hr (by decide) (dpa_cons (dp_var 3) dpa_nil))))))
      (ds_cons (ds_if (det_of (dt_cmp (m := .bas) (op_eqD hr.units) o_eq (dp_var 2) (dp_tup dpa_nil) (nomark _))) (ds_one ds_never) ds_nil)
      (ds_one (ds_ret (dp_b (cr_min rfl) n_min T.z_min boot_min (dpa_cons (dp_lc (own := [("rule", 3)]) rfl sc_least_unsaved.nd (dic_of (di_seq (dp_var 2))) (blkOk_by (own := [("rule", 3)]) (N := ["log", "time", "rules", "rule"]) (sc := defScope st_least_unsaved) (by decide +kernel)) (by decide) (fun _ _ _ _ _ => (dg_name (i := 3) sc_least_unsaved.nd rfl (by first | exact Or.inl rfl | exact Or.inr rfl) (by first | exact .inl rfl | exact .inr rfl))) (fun _ _ _ _ _ => dts_nil) (fun _ _ _ _ _ => (dp_call (fn_unsaved_at T) hr (by decide) (dpa_cons (dp_var 3) (dpa_cons (dp_var 0) (dpa_cons (dp_var 1) dpa_nil)))))) dpa_nil)))))))))
def b_check_index : Rho → Option Out :=
    (iteF (toT (notT (tstD (nD (consA (varD .bas 1) (consA (kD (.int 0)) (consA (b2D (nD (consA (varD .bas 0) nilA) lenD) (kD (.int 1)) subD) nilA))) F_in_range)))) neverF skipF)
def F_check_index : List D → Option D := runF 2 2 b_check_index
theorem fn_check_index (T : Txt K mg) : Fn P w K mg base 2 "check_index" F_check_index := by
  obtain ⟨f, fd, F, bi, hm⟩ := T.d_check_index.ex
  exact fn_mk F sc_check_index bi hm rfl rfl (fun B cdv A outer s H E hr =>
      (ds_one (ds_if (det_of (dt_not (dt_val (m := .bas) (dp_call (fn_in_range T) hr (by decide) (dpa_cons (dp_var 1) (dpa_cons dp_int (dpa_cons (dp_op op_sub o_sub (dp_b call_len_seq n_len T.z_len PySem.boot_len (dpa_cons (dp_var 0) dpa_nil)) dp_int) dpa_nil))))))) (ds_one ds_never) ds_nil)))
def b_both : Rho → Option Out :=
    (seqF (dropE (toE (nD (consA (varD .str 0) nilA) F_check_rule)))
    (seqF (dropE (toE (nD (consA (varD .str 1) nilA) F_check_log)))
    (seqF (dropE (toE (nD (consA (varD .str 1) (consA (varD .str 2) nilA)) F_check_index)))
    (retP (b2D (slD (varD .bas 1) noO (soO (varD .bas 2))) (slD (varD .bas 1) (soO (b2D (varD .bas 2) (kD (.int 1)) addD)) noO) addD)))))
def F_both : List D → Option D := runF 3 3 b_both
theorem fn_both (T : Txt K mg) : Fn P w K mg base 4 "both" F_both := by
  obtain ⟨f, fd, F, bi, hm⟩ := T.d_both.ex
  exact fn_mk F sc_both bi hm rfl rfl (fun B cdv A outer s H E hr =>
      (ds_cons (ds_expr (de_of (dp_call (fn_check_rule T) hr (by decide) (dpa_cons (dp_var 0) dpa_nil))))
      (ds_cons (ds_expr (de_of (dp_call (fn_check_log T) hr (by decide) (dpa_cons (dp_var 1) dpa_nil))))
      (ds_cons (ds_expr (de_of (dp_call (fn_check_index T) hr (by decide) (dpa_cons (dp_var 1) (dpa_cons (dp_var 2) dpa_nil)))))
      (ds_one (ds_ret (dp_op op_addA o_add (dp_slice (dp_var 1) do_none (do_some (dp_var 2))) (dp_slice (dp_var 1) (do_some (dp_op op_addA o_add (dp_var 2) dp_int)) do_none))))))))
def l_left_over_1 : Rho → Option Out :=
    (iteF (toT (tstD (b2D (varD .bas 4) (varD .bas 2) inD))) (remF 2 (varD .str 4)) (appF 3 (varD .str 4)))
def b_left_over : Rho → Option Out :=
    (seqF (setO 2 (b1D (varD .str 1) ownL))
    (seqF (setO 3 (nD nilA lstD))
    (seqF (forF (toI (itD (varD .str 0))) (bName 4) l_left_over_1)
    (retP (varD .bas 3)))))
def F_left_over : List D → Option D := runF 2 5 b_left_over
theorem fn_left_over (T : Txt K mg) : Fn P w K mg base 1 "left_over" F_left_over := by
  obtain ⟨f, fd, F, bi, hm⟩ := T.d_left_over.ex
  exact fn_mk F sc_left_over bi hm rfl rfl (fun B cdv A outer s H E hr =>
      (ds_cons (ds_own (i := 2) sc_left_over.nd rfl (by first | exact Or.inl rfl | exact Or.inr rfl) (df_list T.z_list (dp_var 1)))
      (ds_cons (ds_own (i := 3) sc_left_over.nd rfl (by first | exact Or.inl rfl | exact Or.inr rfl) (df_lst dpa_nil))
      (ds_cons (ds_for PassesOwn.never rfl (die_of (di_seq (dp_var 0))) (dg_name (i := 4) sc_left_over.nd rfl (by first | exact Or.inl rfl | exact Or.inr rfl) (by first | exact .inl rfl | exact .inr rfl)) (ds_one (ds_if (det_of (dt_cmp (m := .bas) (op_inD (u65 hr)) o_in (dp_var 4) (dp_var 2) (by rfl))) (ds_one (ds_rem (i := 2) rfl (dp_var 4))) (ds_one (ds_app (i := 3) rfl (dp_var 4))))))
      (ds_one (ds_ret (dp_var 3)))))))
def c_changed_saves_1 : Rho → Option D :=
    (lcD (itD (b2D (nD (consA (varD .str 0) (consA (varD .str 1) nilA)) F_played) (kD (.int 1)) ixD)) [5, 6] (bTup 2 (bCons (bName 5) (bCons (bName 6) bNil))) yesT (varD .str 5))
def c_changed_saves_2 : Rho → Option D :=
    (lcD (itD (b2D (nD (consA (varD .str 0) (consA (varD .str 3) nilA)) F_played) (kD (.int 1)) ixD)) [5, 6] (bTup 2 (bCons (bName 5) (bCons (bName 6) bNil))) yesT (varD .str 5))
def b_changed_saves : Rho → Option Out :=
    (seqF (setP 3 (nD (consA (varD .str 0) (consA (varD .str 1) (consA (varD .str 2) nilA))) F_both))
    (seqF (setP 4 c_changed_saves_1)
    (seqF (setP 7 c_changed_saves_2)
    (retP (nD (consA (nD (consA (varD .bas 4) (consA (varD .bas 7) nilA)) F_left_over) (consA (nD (consA (varD .bas 7) (consA (varD .bas 4) nilA)) F_left_over) nilA)) tupD)))))
def F_changed_saves : List D → Option D := runF 3 8 b_changed_saves
theorem fn_changed_saves (T : Txt K mg) : Fn P w K mg base 5 "changed_saves" F_changed_saves := by
  obtain ⟨f, fd, F, bi, hm⟩ := T.d_changed_saves.ex
  exact fn_mk F sc_changed_saves bi hm rfl rfl (fun B cdv A outer s H E hr =>
      (ds_cons (ds_setP (i := 3) sc_changed_saves.nd rfl (by first | exact Or.inl rfl | exact Or.inr rfl) (dp_call (fn_both T) hr (by decide) (dpa_cons (dp_var 0) (dpa_cons (dp_var 1) (dpa_cons (dp_var 2) dpa_nil)))))
      (ds_cons (ds_setLc (i := 4) (own := [("time", 5), ("reason", 6)]) rfl sc_changed_saves.nd rfl rfl (sw_true rfl rfl rfl rfl) (dic_of (di_seq (dp_ix ix_seq o_ix (dp_call (fn_played T) hr (by decide) (dpa_cons (dp_var 0) (dpa_cons (dp_var 1) dpa_nil))) dp_int))) (blkOk_by (own := [("time", 5), ("reason", 6)]) (N := ["rule", "log", "index", "other", "before", "time", "reason", "after"]) (sc := defScope st_changed_saves) (by decide +kernel)) (by decide) (fun _ _ _ _ _ => (dg_tup rfl (dgs_cons (dg_name (i := 5) sc_changed_saves.nd rfl (by first | exact Or.inl rfl | exact Or.inr rfl) (by first | exact .inl rfl | exact .inr rfl)) (dgs_cons (dg_name (i := 6) sc_changed_saves.nd rfl (by first | exact Or.inl rfl | exact Or.inr rfl) (by first | exact .inl rfl | exact .inr rfl)) dgs_nil)))) (fun _ _ _ _ _ => dts_nil) (fun _ _ _ _ _ => (dp_var 5)))
      (ds_cons (ds_setLc (i := 7) (own := [("time", 5), ("reason", 6)]) rfl sc_changed_saves.nd rfl rfl (sw_true rfl rfl rfl rfl) (dic_of (di_seq (dp_ix ix_seq o_ix (dp_call (fn_played T) hr (by decide) (dpa_cons (dp_var 0) (dpa_cons (dp_var 3) dpa_nil))) dp_int))) (blkOk_by (own := [("time", 5), ("reason", 6)]) (N := ["rule", "log", "index", "other", "before", "time", "reason", "after"]) (sc := defScope st_changed_saves) (by decide +kernel)) (by decide) (fun _ _ _ _ _ => (dg_tup rfl (dgs_cons (dg_name (i := 5) sc_changed_saves.nd rfl (by first | exact Or.inl rfl | exact Or.inr rfl) (by first | exact .inl rfl | exact .inr rfl)) (dgs_cons (dg_name (i := 6) sc_changed_saves.nd rfl (by first | exact Or.inl rfl | exact Or.inr rfl) (by first | exact .inl rfl | exact .inr rfl)) dgs_nil)))) (fun _ _ _ _ _ => dts_nil) (fun _ _ _ _ _ => (dp_var 5)))
      (ds_one (ds_ret (dp_tup (dpa_cons (dp_call (fn_left_over T) hr (by decide) (dpa_cons (dp_var 4) (dpa_cons (dp_var 7) dpa_nil))) (dpa_cons (dp_call (fn_left_over T) hr (by decide) (dpa_cons (dp_var 7) (dpa_cons (dp_var 4) dpa_nil))) dpa_nil)))))))))
def c_alike_from_1 : Rho → Option D :=
    (lcD (itD (b2D (b2D (nD (consA (varD .str 0) (consA (varD .str 1) nilA)) F_played) (kD (.int 1)) ixD) (b2D (nD (consA (varD .str 0) (consA (varD .str 3) nilA)) F_played) (kD (.int 1)) ixD) addD)) [5, 6] (bTup 2 (bCons (bName 5) (bCons (bName 6) bNil))) yesT (varD .str 5))
def l_alike_from_1 : Rho → Option Out :=
    (iteF (toT (tstD (b2D (nD (consA (varD .bas 0) (consA (varD .bas 1) (consA (varD .bas 8) nilA))) F_unsaved_at) (nD (consA (varD .bas 0) (consA (varD .bas 3) (consA (varD .bas 8) nilA))) F_unsaved_at) neD))) (setP 7 (varD .str 9)) skipF)
def b_alike_from : Rho → Option Out :=
    (seqF (setP 3 (nD (consA (varD .str 0) (consA (varD .str 1) (consA (varD .str 2) nilA))) F_both))
    (seqF (setP 4 (b2D c_alike_from_1 (nD (consA (varD .str 1) nilA) listD) addD))
    (seqF (setP 4 (nD (consA (varD .str 4) nilA) ssetD))
    (seqF (setP 7 (kD (.int 0)))
    (seqF (forF (toI (zipI (varD .str 4) (slD (varD .str 4) (soO (kD (.int 1))) noO))) (bTup 2 (bCons (bName 8) (bCons (bName 9) bNil))) l_alike_from_1)
    (retP (varD .bas 7)))))))
def F_alike_from : List D → Option D := runF 3 10 b_alike_from
theorem fn_alike_from (T : Txt K mg) : Fn P w K mg base 5 "alike_from" F_alike_from := by
  obtain ⟨f, fd, F, bi, hm⟩ := T.d_alike_from.ex
  exact fn_mk F sc_alike_from bi hm rfl rfl (fun B cdv A outer s H E hr =>
      (ds_cons (ds_setP (i := 3) sc_alike_from.nd rfl (by first | exact Or.inl rfl | exact Or.inr rfl) (dp_call (fn_both T) hr (by decide) (dpa_cons (dp_var 0) (dpa_cons (dp_var 1) (dpa_cons (dp_var 2) dpa_nil)))))
      (ds_cons (ds_setP (i := 4) sc_alike_from.nd rfl (by first | exact Or.inl rfl | exact Or.inr rfl) (dp_op op_addA o_add (dp_lc (own := [("time", 5), ("reason", 6)]) rfl sc_alike_from.nd (dic_of (di_seq (dp_op op_addA o_add (dp_ix ix_seq o_ix (dp_call (fn_played T) hr (by decide) (dpa_cons (dp_var 0) (dpa_cons (dp_var 1) dpa_nil))) dp_int) (dp_ix ix_seq o_ix (dp_call (fn_played T) hr (by decide) (dpa_cons (dp_var 0) (dpa_cons (dp_var 3) dpa_nil))) dp_int)))) (blkOk_by (own := [("time", 5), ("reason", 6)]) (N := ["rule", "log", "index", "other", "moments", "time", "reason", "found", "moment", "later"]) (sc := defScope st_alike_from) (by decide +kernel)) (by decide) (fun _ _ _ _ _ => (dg_tup rfl (dgs_cons (dg_name (i := 5) sc_alike_from.nd rfl (by first | exact Or.inl rfl | exact Or.inr rfl) (by first | exact .inl rfl | exact .inr rfl)) (dgs_cons (dg_name (i := 6) sc_alike_from.nd rfl (by first | exact Or.inl rfl | exact Or.inr rfl) (by first | exact .inl rfl | exact .inr rfl)) dgs_nil)))) (fun _ _ _ _ _ => dts_nil) (fun _ _ _ _ _ => (dp_var 5))) (dp_ty call_list_of n_list T.z_list boot_list (dpa_cons (dp_var 1) dpa_nil))))
      (ds_cons (ds_setP (i := 4) sc_alike_from.nd rfl (by first | exact Or.inl rfl | exact Or.inr rfl) (dp_sset rfl T.z_sorted T.z_set (dp_var 4)))
      (ds_cons (ds_setP (i := 7) sc_alike_from.nd rfl (by first | exact Or.inl rfl | exact Or.inr rfl) dp_int)
      (ds_cons (ds_for PassesOwn.never rfl (die_of (di_zip T.z_zip (dp_var 4) (dp_slice (dp_var 4) (do_some dp_int) do_none))) (dg_tup rfl (dgs_cons (dg_name (i := 8) sc_alike_from.nd rfl (by first | exact Or.inl rfl | exact Or.inr rfl) (by first | exact .inl rfl | exact .inr rfl)) (dgs_cons (dg_name (i := 9) sc_alike_from.nd rfl (by first | exact Or.inl rfl | exact Or.inr rfl) (by first | exact .inl rfl | exact .inr rfl)) dgs_nil))) (ds_one (ds_if (det_of (dt_cmp (m := .bas) (op_neD hr.units) o_ne (dp_call (fn_unsaved_at T) hr (by decide) (dpa_cons (dp_var 0) (dpa_cons (dp_var 1) (dpa_cons (dp_var 8) dpa_nil)))) (dp_call (fn_unsaved_at T) hr (by decide) (dpa_cons (dp_var 0) (dpa_cons (dp_var 3) (dpa_cons (dp_var 8) dpa_nil)))) (nomark _))) (ds_one (ds_setP (i := 7) sc_alike_from.nd rfl (by first | exact Or.inl rfl | exact Or.inr rfl) (dp_var 9))) ds_nil)))
      (ds_one (ds_ret (dp_var 7)))))))))
def l_longest_run_1 : Rho → Option Out :=
    (seqF (setP 3 (ifD (orT (tstD (b2D (varD .bas 4) (kD (.int 0)) eqD)) (tstD (b2D (b2D (varD .bas 5) (b2D (varD .bas 0) (b2D (varD .bas 4) (kD (.int 1)) subD) ixD) subD) (varD .bas 1) geD))) (kD (.int 1)) (b2D (varD .str 3) (kD (.int 1)) addD)))
    (setP 2 (nD (consA (varD .str 2) (consA (varD .str 3) nilA)) max2D)))
def b_longest_run : Rho → Option Out :=
    (seqF (asgF (toE (nD (consA (kD (.int 0)) (consA (kD (.int 0)) nilA)) tupD)) (bTup 2 (bCons (bName 2) (bCons (bName 3) bNil))))
    (seqF (forF (toI (enI (varD .str 0))) (bTup 2 (bCons (bName 4) (bCons (bName 5) bNil))) l_longest_run_1)
    (retP (varD .bas 2))))
def F_longest_run : List D → Option D := runF 2 6 b_longest_run
theorem fn_longest_run (T : Txt K mg) : Fn P w K mg base 1 "longest_run" F_longest_run := by
  obtain ⟨f, fd, F, bi, hm⟩ := T.d_longest_run.ex
  exact fn_mk F sc_longest_run bi hm rfl rfl (fun B cdv A outer s H E hr =>
      (ds_cons (ds_asg (de_of (dp_tup (dpa_cons dp_int (dpa_cons dp_int dpa_nil)))) (dg_tup rfl (dgs_cons (dg_name (i := 2) sc_longest_run.nd rfl (by first | exact Or.inl rfl | exact Or.inr rfl) (by first | exact .inl rfl | exact .inr rfl)) (dgs_cons (dg_name (i := 3) sc_longest_run.nd rfl (by first | exact Or.inl rfl | exact Or.inr rfl) (by first | exact .inl rfl | exact .inr rfl)) dgs_nil))))
      (ds_cons (ds_for PassesOwn.never rfl (die_of (di_enum T.z_enumerate (dp_var 0))) (dg_tup rfl (dgs_cons (dg_name (i := 4) sc_longest_run.nd rfl (by first | exact Or.inl rfl | exact Or.inr rfl) (by first | exact .inl rfl | exact .inr rfl)) (dgs_cons (dg_name (i := 5) sc_longest_run.nd rfl (by first | exact Or.inl rfl | exact Or.inr rfl) (by first | exact .inl rfl | exact .inr rfl)) dgs_nil))) (ds_cons (ds_setP (i := 3) sc_longest_run.nd rfl (by first | exact Or.inl rfl | exact Or.inr rfl) (dp_if (dt_w (dw_or (dt_cmp (m := .bas) (op_eqD hr.units) o_eq (dp_var 4) dp_int (nomark _)) (dw_or1 (dt_cmp (m := .bas) op_ge o_cmp (dp_op op_sub o_sub (dp_var 5) (dp_ix ix_seq o_ix (dp_var 0) (dp_op op_sub o_sub (dp_var 4) dp_int))) (dp_var 1) (nomark _))))) dp_int (dp_op op_addA o_add (dp_var 3) dp_int)))
      (ds_one (ds_setP (i := 2) sc_longest_run.nd rfl (by first | exact Or.inl rfl | exact Or.inr rfl) (dp_b (call_max2 rfl) n_max2 T.z_max boot_max (dpa_cons (dp_var 2) (dpa_cons (dp_var 3) dpa_nil)))))))
      (ds_one (ds_ret (dp_var 2))))))
def c_loosest_1 : Rho → Option D :=
    (lcD (zipI (varD .str 0) (slD (varD .str 0) (soO (kD (.int 1))) noO)) [4, 5] (bTup 2 (bCons (bName 4) (bCons (bName 5) bNil))) yesT (b2D (varD .str 5) (varD .str 4) subD))
def c_loosest_2 : Rho → Option D :=
    (lcD (itD (varD .str 3)) [7] (bName 7) (tstD (chD leD ltD (kD (.int 1)) (varD .bas 7) (kD (.int 1000)))) (varD .str 7))
def l_loosest_1 : Rho → Option Out :=
    (iteF (toT (tstD (b2D (nD (consA (b2D (varD .bas 1) (kD (.int 1)) subD) (consA (nD (consA (varD .bas 0) (consA (varD .bas 6) nilA)) F_longest_run) nilA)) min2D) (varD .bas 2) leD))) (retP (varD .bas 6)) skipF)
def b_loosest : Rho → Option Out :=
    (seqF (setP 3 c_loosest_1)
    (seqF (forF (toI (itD (b2D (nD (consA (kD (.int 1000)) nilA) lstD) (b1D (nD (consA c_loosest_2 nilA) sortedD) revD) addD))) (bName 6) l_loosest_1)
    (retP (kD .none))))
def F_loosest : List D → Option D := runF 3 8 b_loosest
theorem fn_loosest (T : Txt K mg) : Fn P w K mg base 2 "loosest" F_loosest := by
  obtain ⟨f, fd, F, bi, hm⟩ := T.d_loosest.ex
  exact fn_mk F sc_loosest bi hm rfl rfl (fun B cdv A outer s H E hr =>
      (ds_cons (ds_setLc (i := 3) (own := [("time", 4), ("later", 5)]) rfl sc_loosest.nd rfl rfl (sw_true rfl rfl rfl rfl) (dic_of (di_zip T.z_zip (dp_var 0) (dp_slice (dp_var 0) (do_some dp_int) do_none))) (blkOk_by (own := [("time", 4), ("later", 5)]) (N := ["log", "count", "most", "gaps", "time", "later", "idle", "gap"]) (sc := defScope st_loosest) (by decide +kernel)) (by decide) (fun _ _ _ _ _ => (dg_tup rfl (dgs_cons (dg_name (i := 4) sc_loosest.nd rfl (by first | exact Or.inl rfl | exact Or.inr rfl) (by first | exact .inl rfl | exact .inr rfl)) (dgs_cons (dg_name (i := 5) sc_loosest.nd rfl (by first | exact Or.inl rfl | exact Or.inr rfl) (by first | exact .inl rfl | exact .inr rfl)) dgs_nil)))) (fun _ _ _ _ _ => dts_nil) (fun _ _ _ _ _ => (dp_op op_sub o_sub (dp_var 5) (dp_var 4))))
      (ds_cons (ds_for PassesOwn.never rfl (die_of (di_seq (dp_op op_addA o_add (dp_lst (dpa_cons (dp_glob (T.g_MOST_IDLE.choose_spec) ⟨_, rfl⟩) dpa_nil)) (dp_rev (dp_b cr_sortedI n_sorted T.z_sorted boot_sorted (dpa_cons (dp_lc (own := [("gap", 7)]) rfl sc_loosest.nd (dic_of (di_seq (dp_var 3))) (blkOk_by (own := [("gap", 7)]) (N := ["log", "count", "most", "gaps", "time", "later", "idle", "gap"]) (sc := defScope st_loosest) (by decide +kernel)) (by decide) (fun _ _ _ _ _ => (dg_name (i := 7) sc_loosest.nd rfl (by first | exact Or.inl rfl | exact Or.inr rfl) (by first | exact .inl rfl | exact .inr rfl))) (fun _ _ _ _ _ => (dts_one (dt_chain (m := .bas) op_le o_cmp op_lt o_cmp dp_int (dp_var 7) (dp_glob (T.g_MOST_IDLE.choose_spec) ⟨_, rfl⟩)))) (fun _ _ _ _ _ => (dp_var 7))) dpa_nil)))))) (dg_name (i := 6) sc_loosest.nd rfl (by first | exact Or.inl rfl | exact Or.inr rfl) (by first | exact .inl rfl | exact .inr rfl)) (ds_one (ds_if (det_of (dt_cmp (m := .bas) op_le o_cmp (dp_b (call_min2 rfl) n_min2 T.z_min boot_min (dpa_cons (dp_op op_sub o_sub (dp_var 1) dp_int) (dpa_cons (dp_call (fn_longest_run T) hr (by decide) (dpa_cons (dp_var 0) (dpa_cons (dp_var 6) dpa_nil))) dpa_nil))) (dp_var 2) (nomark _))) (ds_one (ds_ret (dp_var 6))) ds_nil)))
      (ds_one (ds_ret dp_none)))))
def b_longest_idle : Rho → Option Out :=
    (seqF (dropE (toE (nD (consA (varD .str 0) nilA) F_check_log)))
    (seqF (dropE (toE (nD (consA (varD .str 1) (consA (kD (.int 1)) (consA (kD (.int 20)) nilA))) F_check_number)))
    (seqF (dropE (toE (nD (consA (varD .str 2) (consA (kD (.int 0)) (consA (kD (.int 60)) nilA))) F_check_number)))
    (retP (nD (consA (varD .bas 0) (consA (varD .bas 1) (consA (varD .bas 2) nilA))) F_loosest)))))
def F_longest_idle : List D → Option D := runF 3 3 b_longest_idle
theorem fn_longest_idle (T : Txt K mg) : Fn P w K mg base 4 "longest_idle" F_longest_idle := by
  obtain ⟨f, fd, F, bi, hm⟩ := T.d_longest_idle.ex
  exact fn_mk F sc_longest_idle bi hm rfl rfl (fun B cdv A outer s H E hr =>
      (ds_cons (ds_expr (de_of (dp_call (fn_check_log T) hr (by decide) (dpa_cons (dp_var 0) dpa_nil))))
      (ds_cons (ds_expr (de_of (dp_call (fn_check_number T) hr (by decide) (dpa_cons (dp_var 1) (dpa_cons dp_int (dpa_cons (dp_glob (T.g_MOST_COUNT.choose_spec) ⟨_, rfl⟩) dpa_nil))))))
      (ds_cons (ds_expr (de_of (dp_call (fn_check_number T) hr (by decide) (dpa_cons (dp_var 2) (dpa_cons dp_int (dpa_cons (dp_glob (T.g_MOST_EDITS.choose_spec) ⟨_, rfl⟩) dpa_nil))))))
      (ds_one (ds_ret (dp_call (fn_loosest T) hr (by decide) (dpa_cons (dp_var 0) (dpa_cons (dp_var 1) (dpa_cons (dp_var 2) dpa_nil))))))))))
def c_fewest_saves_1 : Rho → Option D :=
    (lcD (nI (consA (kD (.int 1)) (consA (b2D (kD (.int 20)) (kD (.int 1)) addD) nilA)) rng2) [3] (bName 3) yesT (nD (consA (varD .str 3) (consA (nD (consA (varD .str 0) (consA (varD .str 3) (consA (varD .str 1) nilA))) F_loosest) nilA)) tupD))
def c_fewest_saves_2 : Rho → Option D :=
    (lcD (itD (varD .str 2)) [4] (bName 4) (tstD (b2D (b2D (varD .bas 4) (kD (.int 1)) ixD) (kD .none) notND)) (nD (consA (b2D (nD (consA (varD .str 4) (consA (varD .str 0) nilA)) F_played) (kD (.int 1)) ixD) nilA) lenD))
def b_fewest_saves : Rho → Option Out :=
    (seqF (dropE (toE (nD (consA (varD .str 0) nilA) F_check_log)))
    (seqF (dropE (toE (nD (consA (varD .str 1) (consA (kD (.int 0)) (consA (kD (.int 60)) nilA))) F_check_number)))
    (seqF (setP 2 c_fewest_saves_1)
    (retP (nD (consA c_fewest_saves_2 nilA) minD)))))
def F_fewest_saves : List D → Option D := runF 2 5 b_fewest_saves
theorem fn_fewest_saves (T : Txt K mg) : Fn P w K mg base 4 "fewest_saves" F_fewest_saves := by
  obtain ⟨f, fd, F, bi, hm⟩ := T.d_fewest_saves.ex
  exact fn_mk F sc_fewest_saves bi hm rfl rfl (fun B cdv A outer s H E hr =>
      (ds_cons (ds_expr (de_of (dp_call (fn_check_log T) hr (by decide) (dpa_cons (dp_var 0) dpa_nil))))
      (ds_cons (ds_expr (de_of (dp_call (fn_check_number T) hr (by decide) (dpa_cons (dp_var 1) (dpa_cons dp_int (dpa_cons (dp_glob (T.g_MOST_EDITS.choose_spec) ⟨_, rfl⟩) dpa_nil))))))
      (ds_cons (ds_setLc (i := 2) (own := [("count", 3)]) rfl sc_fewest_saves.nd rfl rfl (sw_true rfl rfl rfl rfl) (dic_of (di_rng2 T.z_range (dpa_cons dp_int (dpa_cons (dp_op op_addA o_add (dp_glob (T.g_MOST_COUNT.choose_spec) ⟨_, rfl⟩) dp_int) dpa_nil)))) (blkOk_by (own := [("count", 3)]) (N := ["log", "most", "rules", "count", "rule"]) (sc := defScope st_fewest_saves) (by decide +kernel)) (by decide) (fun _ _ _ _ _ => (dg_name (i := 3) sc_fewest_saves.nd rfl (by first | exact Or.inl rfl | exact Or.inr rfl) (by first | exact .inl rfl | exact .inr rfl))) (fun _ _ _ _ _ => dts_nil) (fun _ _ _ _ _ => (dp_tup (dpa_cons (dp_var 3) (dpa_cons (dp_call (fn_loosest T) hr (by decide) (dpa_cons (dp_var 0) (dpa_cons (dp_var 3) (dpa_cons (dp_var 1) dpa_nil)))) dpa_nil)))))
      (ds_one (ds_ret (dp_b (cr_min rfl) n_min T.z_min boot_min (dpa_cons (dp_lc (own := [("rule", 4)]) rfl sc_fewest_saves.nd (dic_of (di_seq (dp_var 2))) (blkOk_by (own := [("rule", 4)]) (N := ["log", "most", "rules", "count", "rule"]) (sc := defScope st_fewest_saves) (by decide +kernel)) (by decide) (fun _ _ _ _ _ => (dg_name (i := 4) sc_fewest_saves.nd rfl (by first | exact Or.inl rfl | exact Or.inr rfl) (by first | exact .inl rfl | exact .inr rfl))) (fun _ _ _ _ _ => (dts_one (dt_cmp (m := .bas) op_notN o_notN (dp_ix ix_seq o_ix (dp_var 4) dp_int) dp_none (nomark _)))) (fun _ _ _ _ _ => (dp_b call_len_seq n_len T.z_len PySem.boot_len (dpa_cons (dp_ix ix_seq o_ix (dp_call (fn_played T) hr (by decide) (dpa_cons (dp_var 4) (dpa_cons (dp_var 0) dpa_nil))) dp_int) dpa_nil)))) dpa_nil))))))))
def l_common_1 : Rho → Option Out :=
    (parF2 0 1 (consEA (toE (varD .str 1)) (consEA (toE (b2D (varD .str 0) (varD .str 1) modD)) nilEA)))
def b_common : Rho → Option Out :=
    (seqF (whlL (toT (tstD (b2D (varD .bas 1) (kD (.int 0)) gtD))) l_common_1 400)
    (retP (varD .bas 0)))
def F_common : List D → Option D := runF 2 2 b_common
theorem fn_common (T : Txt K mg) : Fn P w K mg base 1 "common" F_common := by
  obtain ⟨f, fd, F, bi, hm⟩ := T.d_common.ex
  exact fn_mk F sc_common bi hm rfl rfl (fun B cdv A outer s H E hr =>
      (ds_cons (ds_while PassesOwn.never (det_of (dt_cmp (m := .bas) op_gt o_cmp (dp_var 1) dp_int (nomark _))) (ds_one (ds_par rfl sc_common.nd rfl rfl (by decide) rfl rfl (dea_cons (de_of (dp_var 1)) (dea_cons (de_of (dp_op op_mod o_mod (dp_var 0) (dp_var 1))) dea_nil)) rfl)))
      (ds_one (ds_ret (dp_var 0)))))
def b_excess : Rho → Option Out :=
    (seqF (iteF (toT (tstD (b2D (b2D (varD .bas 0) (kD (.int 1)) ixD) (b2D (varD .bas 1) (kD (.int 1)) ixD) eqD))) (retP (b2D (b2D (varD .bas 0) (kD (.int 0)) ixD) (nD (consA (b2D (varD .bas 0) (kD (.int 0)) ixD) (consA (b2D (varD .bas 1) (kD (.int 0)) ixD) nilA)) F_common) subD)) skipF)
    (retP (b2D (b2D (varD .bas 0) (kD (.int 0)) ixD) (kD (.int 1)) subD)))
def F_excess : List D → Option D := runF 2 2 b_excess
theorem fn_excess (T : Txt K mg) : Fn P w K mg base 2 "excess" F_excess := by
  obtain ⟨f, fd, F, bi, hm⟩ := T.d_excess.ex
  exact fn_mk F sc_excess bi hm rfl rfl (fun B cdv A outer s H E hr =>
      (ds_cons (ds_if (det_of (dt_cmp (m := .bas) (op_eqD hr.units) o_eq (dp_ix ix_seq o_ix (dp_var 0) dp_int) (dp_ix ix_seq o_ix (dp_var 1) dp_int) (nomark _))) (ds_one (ds_ret (dp_op op_sub o_sub (dp_ix ix_seq o_ix (dp_var 0) dp_int) (dp_call (fn_common T) hr (by decide) (dpa_cons (dp_ix ix_seq o_ix (dp_var 0) dp_int) (dpa_cons (dp_ix ix_seq o_ix (dp_var 1) dp_int) dpa_nil)))))) ds_nil)
      (ds_one (ds_ret (dp_op op_sub o_sub (dp_ix ix_seq o_ix (dp_var 0) dp_int) dp_int)))))
def b_largest_excess : Rho → Option Out :=
    (seqF (dropE (toE (nD (consA (varD .str 0) nilA) F_check_rule)))
    (seqF (dropE (toE (nD (consA (varD .str 1) nilA) F_check_rule)))
    (retP (nD (consA (varD .bas 0) (consA (varD .bas 1) nilA)) F_excess))))
def F_largest_excess : List D → Option D := runF 2 2 b_largest_excess
theorem fn_largest_excess (T : Txt K mg) : Fn P w K mg base 4 "largest_excess" F_largest_excess := by
  obtain ⟨f, fd, F, bi, hm⟩ := T.d_largest_excess.ex
  exact fn_mk F sc_largest_excess bi hm rfl rfl (fun B cdv A outer s H E hr =>
      (ds_cons (ds_expr (de_of (dp_call (fn_check_rule T) hr (by decide) (dpa_cons (dp_var 0) dpa_nil))))
      (ds_cons (ds_expr (de_of (dp_call (fn_check_rule T) hr (by decide) (dpa_cons (dp_var 1) dpa_nil))))
      (ds_one (ds_ret (dp_call (fn_excess T) hr (by decide) (dpa_cons (dp_var 0) (dpa_cons (dp_var 1) dpa_nil))))))))
def b_never_loses_more : Rho → Option Out :=
    (seqF (dropE (toE (nD (consA (varD .str 0) nilA) F_check_rule)))
    (seqF (dropE (toE (nD (consA (varD .str 1) nilA) F_check_rule)))
    (retP (b2D (nD (consA (varD .bas 0) (consA (varD .bas 1) nilA)) F_excess) (kD (.int 0)) eqD))))
def F_never_loses_more : List D → Option D := runF 2 2 b_never_loses_more
theorem fn_never_loses_more (T : Txt K mg) : Fn P w K mg base 4 "never_loses_more" F_never_loses_more := by
  obtain ⟨f, fd, F, bi, hm⟩ := T.d_never_loses_more.ex
  exact fn_mk F sc_never_loses_more bi hm rfl rfl (fun B cdv A outer s H E hr =>
      (ds_cons (ds_expr (de_of (dp_call (fn_check_rule T) hr (by decide) (dpa_cons (dp_var 0) dpa_nil))))
      (ds_cons (ds_expr (de_of (dp_call (fn_check_rule T) hr (by decide) (dpa_cons (dp_var 1) dpa_nil))))
      (ds_one (ds_ret (dp_cmp (op_eqD hr.units) o_eq (dp_call (fn_excess T) hr (by decide) (dpa_cons (dp_var 0) (dpa_cons (dp_var 1) dpa_nil))) dp_int (nomark _)))))))
def b_saves_at_most : Rho → Option Out :=
    (retP (andV (b2D (b2D (varD .bas 0) (kD (.int 0)) ixD) (b2D (varD .bas 1) (kD (.int 0)) ixD) geD) (orV (b2D (b2D (varD .bas 0) (kD (.int 1)) ixD) (b2D (varD .bas 1) (kD (.int 1)) ixD) geD) (b2D (b2D (varD .bas 1) (kD (.int 0)) ixD) (kD (.int 1)) eqD))))
def F_saves_at_most : List D → Option D := runF 2 2 b_saves_at_most
theorem fn_saves_at_most (T : Txt K mg) : Fn P w K mg base 1 "saves_at_most" F_saves_at_most := by
  obtain ⟨f, fd, F, bi, hm⟩ := T.d_saves_at_most.ex
  exact fn_mk F sc_saves_at_most bi hm rfl rfl (fun B cdv A outer s H E hr =>
      (ds_one (ds_ret (dp_and (dp_cmp op_ge o_cmp (dp_ix ix_seq o_ix (dp_var 0) dp_int) (dp_ix ix_seq o_ix (dp_var 1) dp_int) (nomark _)) (dp_one (dp_or (dp_cmp op_ge o_cmp (dp_ix ix_seq o_ix (dp_var 0) dp_int) (dp_ix ix_seq o_ix (dp_var 1) dp_int) (nomark _)) (dp_one (dp_cmp (op_eqD hr.units) o_eq (dp_ix ix_seq o_ix (dp_var 1) dp_int) dp_int (nomark _)))))))))
def b_never_saves_more : Rho → Option Out :=
    (seqF (dropE (toE (nD (consA (varD .str 0) nilA) F_check_rule)))
    (seqF (dropE (toE (nD (consA (varD .str 1) nilA) F_check_rule)))
    (retP (nD (consA (varD .bas 0) (consA (varD .bas 1) nilA)) F_saves_at_most))))
def F_never_saves_more : List D → Option D := runF 2 2 b_never_saves_more
theorem fn_never_saves_more (T : Txt K mg) : Fn P w K mg base 4 "never_saves_more" F_never_saves_more := by
  obtain ⟨f, fd, F, bi, hm⟩ := T.d_never_saves_more.ex
  exact fn_mk F sc_never_saves_more bi hm rfl rfl (fun B cdv A outer s H E hr =>
      (ds_cons (ds_expr (de_of (dp_call (fn_check_rule T) hr (by decide) (dpa_cons (dp_var 0) dpa_nil))))
      (ds_cons (ds_expr (de_of (dp_call (fn_check_rule T) hr (by decide) (dpa_cons (dp_var 1) dpa_nil))))
      (ds_one (ds_ret (dp_call (fn_saves_at_most T) hr (by decide) (dpa_cons (dp_var 0) (dpa_cons (dp_var 1) dpa_nil))))))))
def b_alike : Rho → Option Out :=
    (seqF (dropE (toE (nD (consA (varD .str 0) nilA) F_check_rule)))
    (seqF (dropE (toE (nD (consA (varD .str 1) nilA) F_check_rule)))
    (retP (orV (b2D (varD .bas 0) (varD .bas 1) eqD) (andV (b2D (b2D (varD .bas 0) (kD (.int 0)) ixD) (kD (.int 1)) eqD) (b2D (b2D (varD .bas 1) (kD (.int 0)) ixD) (kD (.int 1)) eqD))))))
def F_alike : List D → Option D := runF 2 2 b_alike
theorem fn_alike (T : Txt K mg) : Fn P w K mg base 4 "alike" F_alike := by
  obtain ⟨f, fd, F, bi, hm⟩ := T.d_alike.ex
  exact fn_mk F sc_alike bi hm rfl rfl (fun B cdv A outer s H E hr =>
      (ds_cons (ds_expr (de_of (dp_call (fn_check_rule T) hr (by decide) (dpa_cons (dp_var 0) dpa_nil))))
      (ds_cons (ds_expr (de_of (dp_call (fn_check_rule T) hr (by decide) (dpa_cons (dp_var 1) dpa_nil))))
      (ds_one (ds_ret (dp_or (dp_cmp (op_eqD hr.units) o_eq (dp_var 0) (dp_var 1) (nomark _)) (dp_one (dp_and (dp_cmp (op_eqD hr.units) o_eq (dp_ix ix_seq o_ix (dp_var 0) dp_int) dp_int (nomark _)) (dp_one (dp_cmp (op_eqD hr.units) o_eq (dp_ix ix_seq o_ix (dp_var 1) dp_int) dp_int (nomark _)))))))))))
def b_rounded_up : Rho → Option Out :=
    (retP (b2D (b2D (b2D (varD .bas 0) (varD .bas 1) addD) (kD (.int 1)) subD) (varD .bas 1) fdivD))
def F_rounded_up : List D → Option D := runF 2 2 b_rounded_up
theorem fn_rounded_up (T : Txt K mg) : Fn P w K mg base 1 "rounded_up" F_rounded_up := by
  obtain ⟨f, fd, F, bi, hm⟩ := T.d_rounded_up.ex
  exact fn_mk F sc_rounded_up bi hm rfl rfl (fun B cdv A outer s H E hr =>
      (ds_one (ds_ret (dp_op op_fdivW o_fdiv (dp_op op_sub o_sub (dp_op op_addA o_add (dp_var 0) (dp_var 1)) dp_int) (dp_var 1)))))
def b_regular_saves : Rho → Option Out :=
    (seqF (dropE (toE (nD (consA (varD .str 0) nilA) F_check_rule)))
    (seqF (dropE (toE (nD (consA (varD .str 1) (consA (kD (.int 0)) (consA (kD (.int 1000)) nilA))) F_check_number)))
    (seqF (dropE (toE (nD (consA (varD .str 2) (consA (kD (.int 0)) (consA (kD (.int 1000000000000000)) nilA))) F_check_number)))
    (retP (ifD (tstD (b2D (varD .bas 1) (b2D (varD .bas 0) (kD (.int 1)) ixD) geD)) (varD .bas 2) (nD (consA (varD .bas 2) (consA (b2D (varD .bas 0) (kD (.int 0)) ixD) nilA)) F_rounded_up))))))
def F_regular_saves : List D → Option D := runF 3 3 b_regular_saves
theorem fn_regular_saves (T : Txt K mg) : Fn P w K mg base 4 "regular_saves" F_regular_saves := by
  obtain ⟨f, fd, F, bi, hm⟩ := T.d_regular_saves.ex
  exact fn_mk F sc_regular_saves bi hm rfl rfl (fun B cdv A outer s H E hr =>
      (ds_cons (ds_expr (de_of (dp_call (fn_check_rule T) hr (by decide) (dpa_cons (dp_var 0) dpa_nil))))
      (ds_cons (ds_expr (de_of (dp_call (fn_check_number T) hr (by decide) (dpa_cons (dp_var 1) (dpa_cons dp_int (dpa_cons (dp_glob (T.g_MOST_IDLE.choose_spec) ⟨_, rfl⟩) dpa_nil))))))
      (ds_cons (ds_expr (de_of (dp_call (fn_check_number T) hr (by decide) (dpa_cons (dp_var 2) (dpa_cons dp_int (dpa_cons (dp_glob (T.g_MOST.choose_spec) ⟨_, rfl⟩) dpa_nil))))))
      (ds_one (ds_ret (dp_if (dt_cmp (m := .bas) op_ge o_cmp (dp_var 1) (dp_ix ix_seq o_ix (dp_var 0) dp_int) (nomark _)) (dp_var 2) (dp_call (fn_rounded_up T) hr (by decide) (dpa_cons (dp_var 2) (dpa_cons (dp_ix ix_seq o_ix (dp_var 0) dp_int) dpa_nil))))))))))
def c_are_times_1 : Rho → Option D :=
    (lcD (itD (varD .str 0)) [1] (bName 1) yesT (nD (consA (varD .str 1) (consA (kD (.int 0)) (consA (kD (.int 1000000000)) nilA))) F_in_range))
def c_are_times_2 : Rho → Option D :=
    (lcD (zipI (varD .str 0) (slD (varD .str 0) (soO (kD (.int 1))) noO)) [1, 2] (bTup 2 (bCons (bName 1) (bCons (bName 2) bNil))) yesT (b2D (varD .str 1) (varD .str 2) leD))
def b_are_times : Rho → Option Out :=
    (seqF (iteF (toT (orT (notT (tstD (b1D (varD .bas 0) (isTyD .tuple)))) (orT (tstD (b2D (nD (consA (varD .bas 0) nilA) lenD) (kD (.int 60)) gtD)) (notT (tstD (nD (consA c_are_times_1 nilA) allD)))))) (retP (kD (.bool false))) skipF)
    (retP (nD (consA c_are_times_2 nilA) allD)))
def F_are_times : List D → Option D := runF 1 3 b_are_times
theorem fn_are_times (T : Txt K mg) : Fn P w K mg base 2 "are_times" F_are_times := by
  obtain ⟨f, fd, F, bi, hm⟩ := T.d_are_times.ex
  exact fn_mk F sc_are_times bi hm rfl rfl (fun B cdv A outer s H E hr =>
      (ds_cons (ds_if (det_of (dt_w (dw_or (dt_not (dt_val (m := .bas) (dp_isi (T := .tuple) T.z_isinstance T.z_tuple rfl (dp_var 0)))) (dw_or (dt_cmp (m := .bas) op_gt o_cmp (dp_b call_len_seq n_len T.z_len PySem.boot_len (dpa_cons (dp_var 0) dpa_nil)) dp_int (nomark _)) (dw_or1 (dt_not (dt_val (m := .bas) (dp_b (cr_all rfl) n_all T.z_all boot_all (dpa_cons (dp_lc (own := [("time", 1)]) rfl sc_are_times.nd (dic_of (di_seq (dp_var 0))) (blkOk_by (own := [("time", 1)]) (N := ["value", "time", "later"]) (sc := defScope st_are_times) (by decide +kernel)) (by decide) (fun _ _ _ _ _ => (dg_name (i := 1) sc_are_times.nd rfl (by first | exact Or.inl rfl | exact Or.inr rfl) (by first | exact .inl rfl | exact .inr rfl))) (fun _ _ _ _ _ => dts_nil) (fun _ _ _ _ _ => (dp_call (fn_in_range T) hr (by decide) (dpa_cons (dp_var 1) (dpa_cons dp_int (dpa_cons (dp_glob (T.g_FAR.choose_spec) ⟨_, rfl⟩) dpa_nil)))))) dpa_nil))))))))) (ds_one (ds_ret dp_bool)) ds_nil)
      (ds_one (ds_ret (dp_b (cr_all rfl) n_all T.z_all boot_all (dpa_cons (dp_lc (own := [("time", 1), ("later", 2)]) rfl sc_are_times.nd (dic_of (di_zip T.z_zip (dp_var 0) (dp_slice (dp_var 0) (do_some dp_int) do_none))) (blkOk_by (own := [("time", 1), ("later", 2)]) (N := ["value", "time", "later"]) (sc := defScope st_are_times) (by decide +kernel)) (by decide) (fun _ _ _ _ _ => (dg_tup rfl (dgs_cons (dg_name (i := 1) sc_are_times.nd rfl (by first | exact Or.inl rfl | exact Or.inr rfl) (by first | exact .inl rfl | exact .inr rfl)) (dgs_cons (dg_name (i := 2) sc_are_times.nd rfl (by first | exact Or.inl rfl | exact Or.inr rfl) (by first | exact .inl rfl | exact .inr rfl)) dgs_nil)))) (fun _ _ _ _ _ => dts_nil) (fun _ _ _ _ _ => (dp_cmp op_le o_cmp (dp_var 1) (dp_var 2) (nomark _)))) dpa_nil))))))
def c_are_losses_1 : Rho → Option D :=
    (lcD (itD (varD .str 0)) [1] (bName 1) yesT (andV (b1D (varD .str 1) (isTyD .tuple)) (b2D (nD (consA (varD .str 1) nilA) lenD) (kD (.int 2)) eqD)))
def c_are_losses_2 : Rho → Option D :=
    (lcD (itD (varD .str 0)) [1] (bName 1) yesT (andV (nD (consA (b2D (varD .str 1) (kD (.int 0)) ixD) (consA (kD (.int 0)) (consA (kD (.int 1000000000)) nilA))) F_in_range) (nD (consA (b2D (varD .str 1) (kD (.int 1)) ixD) (consA (kD (.int 0)) (consA (kD (.int 60)) nilA))) F_in_range)))
def b_are_losses : Rho → Option Out :=
    (seqF (iteF (toT (orT (notT (tstD (b1D (varD .bas 0) (isTyD .tuple)))) (tstD (b2D (nD (consA (varD .bas 0) nilA) lenD) (kD (.int 20)) gtD)))) (retP (kD (.bool false))) skipF)
    (seqF (iteF (toT (notT (tstD (nD (consA c_are_losses_1 nilA) allD)))) (retP (kD (.bool false))) skipF)
    (retP (nD (consA c_are_losses_2 nilA) allD))))
def F_are_losses : List D → Option D := runF 1 2 b_are_losses
theorem fn_are_losses (T : Txt K mg) : Fn P w K mg base 2 "are_losses" F_are_losses := by
  obtain ⟨f, fd, F, bi, hm⟩ := T.d_are_losses.ex
  exact fn_mk F sc_are_losses bi hm rfl rfl (fun B cdv A outer s H E hr =>
      (ds_cons (ds_if (det_of (dt_w (dw_or (dt_not (dt_val (m := .bas) (dp_isi (T := .tuple) T.z_isinstance T.z_tuple rfl (dp_var 0)))) (dw_or1 (dt_cmp (m := .bas) op_gt o_cmp (dp_b call_len_seq n_len T.z_len PySem.boot_len (dpa_cons (dp_var 0) dpa_nil)) (dp_glob (T.g_MOST_SEEN.choose_spec) ⟨_, rfl⟩) (nomark _)))))) (ds_one (ds_ret dp_bool)) ds_nil)
      (ds_cons (ds_if (det_of (dt_not (dt_val (m := .bas) (dp_b (cr_all rfl) n_all T.z_all boot_all (dpa_cons (dp_lc (own := [("row", 1)]) rfl sc_are_losses.nd (dic_of (di_seq (dp_var 0))) (blkOk_by (own := [("row", 1)]) (N := ["value", "row"]) (sc := defScope st_are_losses) (by decide +kernel)) (by decide) (fun _ _ _ _ _ => (dg_name (i := 1) sc_are_losses.nd rfl (by first | exact Or.inl rfl | exact Or.inr rfl) (by first | exact .inl rfl | exact .inr rfl))) (fun _ _ _ _ _ => dts_nil) (fun _ _ _ _ _ => (dp_and (dp_isi (T := .tuple) T.z_isinstance T.z_tuple rfl (dp_var 1)) (dp_one (dp_cmp (op_eqD hr.units) o_eq (dp_b call_len_seq n_len T.z_len PySem.boot_len (dpa_cons (dp_var 1) dpa_nil)) dp_int (nomark _)))))) dpa_nil))))) (ds_one (ds_ret dp_bool)) ds_nil)
      (ds_one (ds_ret (dp_b (cr_all rfl) n_all T.z_all boot_all (dpa_cons (dp_lc (own := [("row", 1)]) rfl sc_are_losses.nd (dic_of (di_seq (dp_var 0))) (blkOk_by (own := [("row", 1)]) (N := ["value", "row"]) (sc := defScope st_are_losses) (by decide +kernel)) (by decide) (fun _ _ _ _ _ => (dg_name (i := 1) sc_are_losses.nd rfl (by first | exact Or.inl rfl | exact Or.inr rfl) (by first | exact .inl rfl | exact .inr rfl))) (fun _ _ _ _ _ => dts_nil) (fun _ _ _ _ _ => (dp_and (dp_call (fn_in_range T) hr (by decide) (dpa_cons (dp_ix ix_seq o_ix (dp_var 1) dp_int) (dpa_cons dp_int (dpa_cons (dp_glob (T.g_FAR.choose_spec) ⟨_, rfl⟩) dpa_nil)))) (dp_one (dp_call (fn_in_range T) hr (by decide) (dpa_cons (dp_ix ix_seq o_ix (dp_var 1) dp_int) (dpa_cons dp_int (dpa_cons dp_int dpa_nil)))))))) dpa_nil)))))))
def c_times_of_1 : Rho → Option D :=
    (lcD (itD (b2D (nD (consA (varD .str 0) (consA (varD .str 1) nilA)) F_played) (kD (.int 1)) ixD)) [2, 3] (bTup 2 (bCons (bName 2) (bCons (bName 3) bNil))) yesT (varD .str 2))
def b_times_of : Rho → Option Out :=
    (retP (nD (consA c_times_of_1 nilA) tupleD))
def F_times_of : List D → Option D := runF 2 4 b_times_of
theorem fn_times_of (T : Txt K mg) : Fn P w K mg base 2 "times_of" F_times_of := by
  obtain ⟨f, fd, F, bi, hm⟩ := T.d_times_of.ex
  exact fn_mk F sc_times_of bi hm rfl rfl (fun B cdv A outer s H E hr =>
      (ds_one (ds_ret (dp_ty call_tuple_of n_tuple T.z_tuple boot_tuple (dpa_cons (dp_lc (own := [("time", 2), ("reason", 3)]) rfl sc_times_of.nd (dic_of (di_seq (dp_ix ix_seq o_ix (dp_call (fn_played T) hr (by decide) (dpa_cons (dp_var 0) (dpa_cons (dp_var 1) dpa_nil))) dp_int))) (blkOk_by (own := [("time", 2), ("reason", 3)]) (N := ["rule", "log", "time", "reason"]) (sc := defScope st_times_of) (by decide +kernel)) (by decide) (fun _ _ _ _ _ => (dg_tup rfl (dgs_cons (dg_name (i := 2) sc_times_of.nd rfl (by first | exact Or.inl rfl | exact Or.inr rfl) (by first | exact .inl rfl | exact .inr rfl)) (dgs_cons (dg_name (i := 3) sc_times_of.nd rfl (by first | exact Or.inl rfl | exact Or.inr rfl) (by first | exact .inl rfl | exact .inr rfl)) dgs_nil)))) (fun _ _ _ _ _ => dts_nil) (fun _ _ _ _ _ => (dp_var 2))) dpa_nil)))))
def c_ranges_of_1 : Rho → Option D :=
    (lcD (zipI (varD .str 0) (slD (varD .str 0) (soO (kD (.int 1))) noO)) [2, 3] (bTup 2 (bCons (bName 2) (bCons (bName 3) bNil))) (tstD (chD leD ltD (kD (.int 1)) (b2D (varD .bas 3) (varD .bas 2) subD) (kD (.int 1000)))) (b2D (varD .str 3) (varD .str 2) subD))
def c_ranges_of_2 : Rho → Option D :=
    (lcD (itD (varD .str 1)) [5] (bName 5) yesT (b2D (varD .str 5) (kD (.int 1)) addD))
def b_ranges_of : Rho → Option Out :=
    (seqF (setP 1 (nD (consA c_ranges_of_1 nilA) ssetD))
    (seqF (setP 4 (b2D (nD (consA (kD (.int 1)) nilA) lstD) c_ranges_of_2 addD))
    (retP (nD (consA (varD .bas 4) (consA (b2D (varD .bas 1) (nD (consA (kD (.int 1000)) nilA) lstD) addD) nilA)) lzipD))))
def F_ranges_of : List D → Option D := runF 1 6 b_ranges_of
theorem fn_ranges_of (T : Txt K mg) : Fn P w K mg base 1 "ranges_of" F_ranges_of := by
  obtain ⟨f, fd, F, bi, hm⟩ := T.d_ranges_of.ex
  exact fn_mk F sc_ranges_of bi hm rfl rfl (fun B cdv A outer s H E hr =>
      (ds_cons (ds_setP (i := 1) sc_ranges_of.nd rfl (by first | exact Or.inl rfl | exact Or.inr rfl) (dp_sset rfl T.z_sorted T.z_set (dp_lc (own := [("time", 2), ("later", 3)]) rfl sc_ranges_of.nd (dic_of (di_zip T.z_zip (dp_var 0) (dp_slice (dp_var 0) (do_some dp_int) do_none))) (blkOk_by (own := [("time", 2), ("later", 3)]) (N := ["log", "gaps", "time", "later", "starts", "gap"]) (sc := defScope st_ranges_of) (by decide +kernel)) (by decide) (fun _ _ _ _ _ => (dg_tup rfl (dgs_cons (dg_name (i := 2) sc_ranges_of.nd rfl (by first | exact Or.inl rfl | exact Or.inr rfl) (by first | exact .inl rfl | exact .inr rfl)) (dgs_cons (dg_name (i := 3) sc_ranges_of.nd rfl (by first | exact Or.inl rfl | exact Or.inr rfl) (by first | exact .inl rfl | exact .inr rfl)) dgs_nil)))) (fun _ _ _ _ _ => (dts_one (dt_chain (m := .bas) op_le o_cmp op_lt o_cmp dp_int (dp_op op_sub o_sub (dp_var 3) (dp_var 2)) (dp_glob (T.g_MOST_IDLE.choose_spec) ⟨_, rfl⟩)))) (fun _ _ _ _ _ => (dp_op op_sub o_sub (dp_var 3) (dp_var 2))))))
      (ds_cons (ds_setP (i := 4) sc_ranges_of.nd rfl (by first | exact Or.inl rfl | exact Or.inr rfl) (dp_op op_addA o_add (dp_lst (dpa_cons dp_int dpa_nil)) (dp_lc (own := [("gap", 5)]) rfl sc_ranges_of.nd (dic_of (di_seq (dp_var 1))) (blkOk_by (own := [("gap", 5)]) (N := ["log", "gaps", "time", "later", "starts", "gap"]) (sc := defScope st_ranges_of) (by decide +kernel)) (by decide) (fun _ _ _ _ _ => (dg_name (i := 5) sc_ranges_of.nd rfl (by first | exact Or.inl rfl | exact Or.inr rfl) (by first | exact .inl rfl | exact .inr rfl))) (fun _ _ _ _ _ => dts_nil) (fun _ _ _ _ _ => (dp_op op_addA o_add (dp_var 5) dp_int)))))
      (ds_one (ds_ret (dp_lzip rfl T.z_list T.z_zip (dpa_cons (dp_var 4) (dpa_cons (dp_op op_addA o_add (dp_var 1) (dp_lst (dpa_cons (dp_glob (T.g_MOST_IDLE.choose_spec) ⟨_, rfl⟩) dpa_nil))) dpa_nil))))))))
def c_idle_range_1 : Rho → Option D :=
    (lcD (zipMI (varD .str 2) (varD .str 5)) [7, 8, 9] (bTup 2 (bCons (bName 7) (bCons (bTup 2 (bCons (bName 8) (bCons (bName 9) bNil))) bNil))) (tstD (b2D (varD .bas 9) (kD (.str "idle")) eqD)) (b2D (varD .str 7) (varD .str 8) subD))
def b_idle_range : Rho → Option Out :=
    (seqF (setP 5 (b2D (nD (consA (nD (consA (varD .str 0) (consA (varD .str 3) nilA)) tupD) (consA (varD .str 1) nilA)) F_played) (kD (.int 1)) ixD))
    (seqF (iteF (toT (tstD (b2D (nD (consA (varD .bas 5) nilA) lenD) (nD (consA (varD .bas 2) nilA) lenD) neD))) (retP (kD .none)) skipF)
    (seqF (setP 6 c_idle_range_1)
    (seqF (iteF (toT (tstD (b2D (varD .bas 6) (nD nilA lstD) eqD))) (retP (ifD (tstD (b2D (nD (consA (nD (consA (varD .bas 0) (consA (varD .bas 3) nilA)) tupD) (consA (varD .bas 1) nilA)) F_times_of) (varD .bas 2) eqD)) (nD (consA (varD .bas 3) (consA (varD .bas 4) nilA)) tupD) (kD .none))) skipF)
    (seqF (setP 10 (b2D (varD .str 3) (b2D (varD .str 6) (kD (.int 0)) ixD) addD))
    (retP (ifD (andT (tstD (chD leD leD (varD .bas 3) (varD .bas 10) (varD .bas 4))) (tstD (b2D (nD (consA (nD (consA (varD .bas 0) (consA (varD .bas 10) nilA)) tupD) (consA (varD .bas 1) nilA)) F_times_of) (varD .bas 2) eqD))) (nD (consA (varD .bas 10) (consA (varD .bas 10) nilA)) tupD) (kD .none))))))))
def F_idle_range : List D → Option D := runF 5 11 b_idle_range
theorem fn_idle_range (T : Txt K mg) : Fn P w K mg base 3 "idle_range" F_idle_range := by
  obtain ⟨f, fd, F, bi, hm⟩ := T.d_idle_range.ex
  exact fn_mk F sc_idle_range bi hm rfl rfl (fun B cdv A outer s H E hr =>
      (ds_cons (ds_setP (i := 5) sc_idle_range.nd rfl (by first | exact Or.inl rfl | exact Or.inr rfl) (dp_ix ix_seq o_ix (dp_call (fn_played T) hr (by decide) (dpa_cons (dp_tup (dpa_cons (dp_var 0) (dpa_cons (dp_var 3) dpa_nil))) (dpa_cons (dp_var 1) dpa_nil))) dp_int))
      (ds_cons (ds_if (det_of (dt_cmp (m := .bas) (op_neD hr.units) o_ne (dp_b call_len_seq n_len T.z_len PySem.boot_len (dpa_cons (dp_var 5) dpa_nil)) (dp_b call_len_seq n_len T.z_len PySem.boot_len (dpa_cons (dp_var 2) dpa_nil)) (nomark _))) (ds_one (ds_ret dp_none)) ds_nil)
      (ds_cons (ds_setLc (i := 6) (own := [("seen", 7), ("time", 8), ("reason", 9)]) rfl sc_idle_range.nd rfl rfl (sw_true rfl rfl rfl rfl) (dic_of (di_zipM T.z_zip (dp_var 2) (dp_var 5))) (blkOk_by (own := [("seen", 7), ("time", 8), ("reason", 9)]) (N := ["count", "log", "times", "low", "high", "done", "shifts", "seen", "time", "reason", "idle"]) (sc := defScope st_idle_range) (by decide +kernel)) (by decide) (fun _ _ _ _ _ => (dg_tup rfl (dgs_cons (dg_name (i := 7) sc_idle_range.nd rfl (by first | exact Or.inl rfl | exact Or.inr rfl) (by first | exact .inl rfl | exact .inr rfl)) (dgs_cons (dg_tup rfl (dgs_cons (dg_name (i := 8) sc_idle_range.nd rfl (by first | exact Or.inl rfl | exact Or.inr rfl) (by first | exact .inl rfl | exact .inr rfl)) (dgs_cons (dg_name (i := 9) sc_idle_range.nd rfl (by first | exact Or.inl rfl | exact Or.inr rfl) (by first | exact .inl rfl | exact .inr rfl)) dgs_nil))) dgs_nil)))) (fun _ _ _ _ _ => (dts_one (dt_cmp (m := .bas) (op_eqD hr.units) o_eq (dp_var 9) dp_str (nomark _)))) (fun _ _ _ _ _ => (dp_op op_sub o_sub (dp_var 7) (dp_var 8))))
      (ds_cons (ds_if (det_of (dt_cmp (m := .bas) (op_eqD hr.units) o_eq (dp_var 6) (dp_lst dpa_nil) (nomark _))) (ds_one (ds_ret (dp_if (dt_cmp (m := .bas) (op_eqD hr.units) o_eq (dp_call (fn_times_of T) hr (by decide) (dpa_cons (dp_tup (dpa_cons (dp_var 0) (dpa_cons (dp_var 3) dpa_nil))) (dpa_cons (dp_var 1) dpa_nil))) (dp_var 2) (nomark _)) (dp_tup (dpa_cons (dp_var 3) (dpa_cons (dp_var 4) dpa_nil))) dp_none))) ds_nil)
      (ds_cons (ds_setP (i := 10) sc_idle_range.nd rfl (by first | exact Or.inl rfl | exact Or.inr rfl) (dp_op op_addA o_add (dp_var 3) (dp_ix ix_seq o_ix (dp_var 6) dp_int)))
      (ds_one (ds_ret (dp_if (dt_w (dw_and (dt_chain (m := .bas) op_le o_cmp op_le o_cmp (dp_var 3) (dp_var 10) (dp_var 4)) (dw_and1 (dt_cmp (m := .bas) (op_eqD hr.units) o_eq (dp_call (fn_times_of T) hr (by decide) (dpa_cons (dp_tup (dpa_cons (dp_var 0) (dpa_cons (dp_var 10) dpa_nil))) (dpa_cons (dp_var 1) dpa_nil))) (dp_var 2) (nomark _))))) (dp_tup (dpa_cons (dp_var 10) (dpa_cons (dp_var 10) dpa_nil))) dp_none)))))))))
def l_fitting_rules_1 : Rho → Option Out :=
    (seqF (setP 6 (nD (consA (varD .str 3) (consA (varD .str 0) (consA (varD .str 1) (consA (varD .str 4) (consA (varD .str 5) nilA))))) F_idle_range))
    (iteF (toT (andT (tstD (b2D (varD .bas 6) (kD .none) notND)) (andT (tstD (b2D (varD .bas 2) (nD nilA lstD) neD)) (andT (tstD (b2D (b2D (ixO 2 (b1D (kD (.int 1)) negD)) (kD (.int 0)) ixD) (varD .bas 3) eqD)) (tstD (b2D (b2D (b2D (ixO 2 (b1D (kD (.int 1)) negD)) (kD (.int 2)) ixD) (kD (.int 1)) addD) (b2D (varD .bas 6) (kD (.int 0)) ixD) eqD)))))) (subF 2 (b1D (kD (.int 1)) negD) (nD (consA (varD .str 3) (consA (b2D (ixO 2 (b1D (kD (.int 1)) negD)) (kD (.int 1)) ixD) (consA (b2D (varD .str 6) (kD (.int 1)) ixD) nilA))) tupD)) (iteF (toT (tstD (b2D (varD .bas 6) (kD .none) notND))) (appF 2 (b2D (nD (consA (varD .str 3) nilA) tupD) (varD .str 6) addD)) skipF)))
def l_fitting_rules_2 : Rho → Option Out :=
    (forF (toI (itD (nD (consA (varD .str 0) nilA) F_ranges_of))) (bTup 2 (bCons (bName 4) (bCons (bName 5) bNil))) l_fitting_rules_1)
def b_fitting_rules : Rho → Option Out :=
    (seqF (dropE (toE (nD (consA (varD .str 0) nilA) F_check_log)))
    (seqF (iteF (toT (notT (tstD (nD (consA (varD .bas 1) nilA) F_are_times)))) neverF skipF)
    (seqF (setO 2 (nD nilA lstD))
    (seqF (forF (toI (nI (consA (kD (.int 1)) (consA (b2D (kD (.int 20)) (kD (.int 1)) addD) nilA)) rng2)) (bName 3) l_fitting_rules_2)
    (retP (varD .bas 2))))))
def F_fitting_rules : List D → Option D := runF 2 7 b_fitting_rules
theorem fn_fitting_rules (T : Txt K mg) : Fn P w K mg base 4 "fitting_rules" F_fitting_rules := by
  obtain ⟨f, fd, F, bi, hm⟩ := T.d_fitting_rules.ex
  exact fn_mk F sc_fitting_rules bi hm rfl rfl (fun B cdv A outer s H E hr =>
      (ds_cons (ds_expr (de_of (dp_call (fn_check_log T) hr (by decide) (dpa_cons (dp_var 0) dpa_nil))))
      (ds_cons (ds_if (det_of (dt_not (dt_val (m := .bas) (dp_call (fn_are_times T) hr (by decide) (dpa_cons (dp_var 1) dpa_nil))))) (ds_one ds_never) ds_nil)
      (ds_cons (ds_own (i := 2) sc_fitting_rules.nd rfl (by first | exact Or.inl rfl | exact Or.inr rfl) (df_lst dpa_nil))
      (ds_cons (ds_for PassesOwn.never rfl (die_of (di_rng2 T.z_range (dpa_cons dp_int (dpa_cons (dp_op op_addA o_add (dp_glob (T.g_MOST_COUNT.choose_spec) ⟨_, rfl⟩) dp_int) dpa_nil)))) (dg_name (i := 3) sc_fitting_rules.nd rfl (by first | exact Or.inl rfl | exact Or.inr rfl) (by first | exact .inl rfl | exact .inr rfl)) (ds_one (ds_for PassesOwn.never rfl (die_of (di_seq (dp_call (fn_ranges_of T) hr (by decide) (dpa_cons (dp_var 0) dpa_nil)))) (dg_tup rfl (dgs_cons (dg_name (i := 4) sc_fitting_rules.nd rfl (by first | exact Or.inl rfl | exact Or.inr rfl) (by first | exact .inl rfl | exact .inr rfl)) (dgs_cons (dg_name (i := 5) sc_fitting_rules.nd rfl (by first | exact Or.inl rfl | exact Or.inr rfl) (by first | exact .inl rfl | exact .inr rfl)) dgs_nil))) (ds_cons (ds_setP (i := 6) sc_fitting_rules.nd rfl (by first | exact Or.inl rfl | exact Or.inr rfl) (dp_call (fn_idle_range T) hr (by decide) (dpa_cons (dp_var 3) (dpa_cons (dp_var 0) (dpa_cons (dp_var 1) (dpa_cons (dp_var 4) (dpa_cons (dp_var 5) dpa_nil)))))))
      (ds_one (ds_if (det_of (dt_w (dw_and (dt_cmp (m := .bas) op_notN o_notN (dp_var 6) dp_none (nomark _)) (dw_and (dt_cmp (m := .bas) (op_neD hr.units) o_ne (dp_var 2) (dp_lst dpa_nil) (nomark _)) (dw_and (dt_cmp (m := .bas) (op_eqD hr.units) o_eq (dp_ix ix_seq o_ix (dp_ixO (i := 2) rfl (dp_un un_neg o_neg dp_int)) dp_int) (dp_var 3) (nomark _)) (dw_and1 (dt_cmp (m := .bas) (op_eqD hr.units) o_eq (dp_op op_addA o_add (dp_ix ix_seq o_ix (dp_ixO (i := 2) rfl (dp_un un_neg o_neg dp_int)) dp_int) dp_int) (dp_ix ix_seq o_ix (dp_var 6) dp_int) (nomark _)))))))) (ds_one (ds_sub (i := 2) rfl (dp_un un_neg o_neg dp_int) (dp_tup (dpa_cons (dp_var 3) (dpa_cons (dp_ix ix_seq o_ix (dp_ixO (i := 2) rfl (dp_un un_neg o_neg dp_int)) dp_int) (dpa_cons (dp_ix ix_seq o_ix (dp_var 6) dp_int) dpa_nil)))))) (ds_one (ds_if (det_of (dt_cmp (m := .bas) op_notN o_notN (dp_var 6) dp_none (nomark _))) (ds_one (ds_app (i := 2) rfl (dp_op op_addA o_add (dp_tup (dpa_cons (dp_var 3) dpa_nil)) (dp_var 6)))) ds_nil))))))))
      (ds_one (ds_ret (dp_var 2))))))))
def c_wrong_losses_1 : Rho → Option D :=
    (lc2D (nI (consA (kD (.int 1)) (consA (b2D (kD (.int 20)) (kD (.int 1)) addD) nilA)) rng2) [3, 4] (bName 3) yesT (nI (consA (kD (.int 1)) (consA (b2D (kD (.int 60)) (kD (.int 1)) addD) nilA)) rng2) [4] (bName 4) yesT (nD (consA (varD .str 3) (consA (varD .str 4) nilA)) tupD))
def c_wrong_losses_2 : Rho → Option D :=
    (lcD (enI (varD .str 1)) [7, 8] (bTup 2 (bCons (bName 7) (bCons (bName 8) bNil))) (tstD (b2D (nD (consA (varD .bas 6) (consA (varD .bas 0) (consA (b2D (varD .bas 8) (kD (.int 0)) ixD) nilA))) F_unsaved_at) (b2D (varD .bas 8) (kD (.int 1)) ixD) neD)) (varD .str 7))
def c_wrong_losses_3 : Rho → Option D :=
    (lcD (itD (varD .str 2)) [6] (bName 6) yesT c_wrong_losses_2)
def c_wrong_losses_4 : Rho → Option D :=
    (lcD (nI (consA (nD (consA (varD .str 1) nilA) lenD) nilA) rng1) [9] (bName 9) (tstD (b2D (nD (consA (varD .bas 9) nilA) lstD) (varD .bas 5) inD)) (varD .str 9))
def b_wrong_losses : Rho → Option Out :=
    (seqF (dropE (toE (nD (consA (varD .str 0) nilA) F_check_log)))
    (seqF (iteF (toT (notT (tstD (nD (consA (varD .bas 1) nilA) F_are_losses)))) neverF skipF)
    (seqF (setP 2 c_wrong_losses_1)
    (seqF (setP 5 c_wrong_losses_3)
    (seqF (iteF (toT (tstD (b2D (nD nilA lstD) (varD .bas 5) inD))) (retP (nD nilA lstD)) skipF)
    (retP c_wrong_losses_4))))))
def F_wrong_losses : List D → Option D := runF 2 10 b_wrong_losses
theorem fn_wrong_losses (T : Txt K mg) : Fn P w K mg base 4 "wrong_losses" F_wrong_losses := by
  obtain ⟨f, fd, F, bi, hm⟩ := T.d_wrong_losses.ex
  exact fn_mk F sc_wrong_losses bi hm rfl rfl (fun B cdv A outer s H E hr =>
      (ds_cons (ds_expr (de_of (dp_call (fn_check_log T) hr (by decide) (dpa_cons (dp_var 0) dpa_nil))))
      (ds_cons (ds_if (det_of (dt_not (dt_val (m := .bas) (dp_call (fn_are_losses T) hr (by decide) (dpa_cons (dp_var 1) dpa_nil))))) (ds_one ds_never) ds_nil)
      (ds_cons (ds_setLc2 (i := 2) (own := [("count", 3), ("idle", 4)]) (vs1 := [4]) rfl sc_wrong_losses.nd rfl rfl (sw_true rfl rfl rfl rfl) (dic_of (di_rng2 T.z_range (dpa_cons dp_int (dpa_cons (dp_op op_addA o_add (dp_glob (T.g_MOST_COUNT.choose_spec) ⟨_, rfl⟩) dp_int) dpa_nil)))) (blkOk_by (own := [("count", 3), ("idle", 4)]) (N := ["log", "seen", "rules", "count", "idle", "failed", "rule", "at", "row", "index"]) (sc := defScope st_wrong_losses) (by decide +kernel)) (by decide) (by decide) (by decide) (fun _ _ _ _ _ => (dg_name (i := 3) sc_wrong_losses.nd rfl (by first | exact Or.inl rfl | exact Or.inr rfl) (by first | exact .inl rfl | exact .inr rfl))) (fun _ _ _ _ _ => dts_nil) (fun _ _ _ _ _ => (di_rng2 T.z_range (dpa_cons dp_int (dpa_cons (dp_op op_addA o_add (dp_glob (T.g_SHORT.choose_spec) ⟨_, rfl⟩) dp_int) dpa_nil)))) (fun _ _ _ _ _ => (dg_name (i := 4) sc_wrong_losses.nd rfl (by first | exact Or.inl rfl | exact Or.inr rfl) (by first | exact .inl rfl | exact .inr rfl))) (fun _ _ _ _ _ => dts_nil) (fun _ _ _ _ _ => (dp_tup (dpa_cons (dp_var 3) (dpa_cons (dp_var 4) dpa_nil)))))
      (ds_cons (ds_setP (i := 5) sc_wrong_losses.nd rfl (by first | exact Or.inl rfl | exact Or.inr rfl) (dp_lc (own := [("rule", 6)]) rfl sc_wrong_losses.nd (dic_of (di_seq (dp_var 2))) (blkOk_by (own := [("rule", 6)]) (N := ["log", "seen", "rules", "count", "idle", "failed", "rule", "at", "row", "index"]) (sc := defScope st_wrong_losses) (by decide +kernel)) (by decide) (fun _ _ _ _ _ => (dg_name (i := 6) sc_wrong_losses.nd rfl (by first | exact Or.inl rfl | exact Or.inr rfl) (by first | exact .inl rfl | exact .inr rfl))) (fun _ _ _ _ _ => dts_nil) (fun _ _ _ _ _ => (dp_lc (own := [("at", 7), ("row", 8)]) rfl sc_wrong_losses.nd (dic_of (di_enum T.z_enumerate (dp_var 1))) (blkOk_by (own := [("at", 7), ("row", 8)]) (by rfl)) (by decide) (fun _ _ _ _ _ => (dg_tup rfl (dgs_cons (dg_name (i := 7) sc_wrong_losses.nd rfl (by first | exact Or.inl rfl | exact Or.inr rfl) (by first | exact .inl rfl | exact .inr rfl)) (dgs_cons (dg_name (i := 8) sc_wrong_losses.nd rfl (by first | exact Or.inl rfl | exact Or.inr rfl) (by first | exact .inl rfl | exact .inr rfl)) dgs_nil)))) (fun _ _ _ _ _ => (dts_one (dt_cmp (m := .bas) (op_neD hr.units) o_ne (dp_call (fn_unsaved_at T) hr (by decide) (dpa_cons (dp_var 6) (dpa_cons (dp_var 0) (dpa_cons (dp_ix ix_seq o_ix (dp_var 8) dp_int) dpa_nil)))) (dp_ix ix_seq o_ix (dp_var 8) dp_int) (nomark _)))) (fun _ _ _ _ _ => (dp_var 7))))))
      (ds_cons (ds_if (det_of (dt_cmp (m := .bas) (op_inD (u65 hr)) o_in (dp_lst dpa_nil) (dp_var 5) (by rfl))) (ds_one (ds_ret (dp_lst dpa_nil))) ds_nil)
      (ds_one (ds_ret (dp_lc (own := [("index", 9)]) rfl sc_wrong_losses.nd (dic_of (di_rng1 T.z_range (dpa_cons (dp_b call_len_seq n_len T.z_len PySem.boot_len (dpa_cons (dp_var 1) dpa_nil)) dpa_nil))) (blkOk_by (own := [("index", 9)]) (N := ["log", "seen", "rules", "count", "idle", "failed", "rule", "at", "row", "index"]) (sc := defScope st_wrong_losses) (by decide +kernel)) (by decide) (fun _ _ _ _ _ => (dg_name (i := 9) sc_wrong_losses.nd rfl (by first | exact Or.inl rfl | exact Or.inr rfl) (by first | exact .inl rfl | exact .inr rfl))) (fun _ _ _ _ _ => (dts_one (dt_cmp (m := .bas) (op_inD (u65 hr)) o_in (dp_lst (dpa_cons (dp_var 9) dpa_nil)) (dp_var 5) (by rfl)))) (fun _ _ _ _ _ => (dp_var 9)))))))))))
def b_law_well : Rho → Option Out :=
    (seqF (iteF (toT (tstD (b2D (varD .bas 0) (b2D (kD (.int 10)) (kD (.int 18)) powD) geD))) (retP (nD (consA (b2D (varD .bas 0) (b2D (kD (.int 10)) (kD (.int 18)) powD) subD) (consA (b2D (varD .bas 0) (kD (.int 2305843009213693951)) modD) (consA (varD .bas 1) nilA))) lstD)) skipF)
    (retP (nD (consA (kD (.int 0)) (consA (b2D (varD .bas 0) (kD (.int 2305843009213693951)) modD) (consA (varD .bas 1) nilA))) lstD)))
def F_law_well : List D → Option D := runF 2 2 b_law_well
theorem fn_law_well (T : Txt K mg) : Fn P w K mg base 1 "_law_well" F_law_well := by
  obtain ⟨f, fd, F, bi, hm⟩ := T.d_law_well.ex
  exact fn_mk F sc_law_well bi hm rfl rfl (fun B cdv A outer s H E hr =>
      (ds_cons (ds_if (det_of (dt_cmp (m := .bas) op_ge o_cmp (dp_var 0) (dp_op op_pow o_pow dp_int dp_int) (nomark _))) (ds_one (ds_ret (dp_lst (dpa_cons (dp_op op_sub o_sub (dp_var 0) (dp_op op_pow o_pow dp_int dp_int)) (dpa_cons (dp_op op_mod o_mod (dp_var 0) dp_int) (dpa_cons (dp_var 1) dpa_nil)))))) ds_nil)
      (ds_one (ds_ret (dp_lst (dpa_cons dp_int (dpa_cons (dp_op op_mod o_mod (dp_var 0) dp_int) (dpa_cons (dp_var 1) dpa_nil))))))))
def b_law_take : Rho → Option Out :=
    (seqF (iteF (toT (tstD (b2D (ixO 0 (kD (.int 0))) (kD (.int 0)) gtD))) (seqF (setP 2 (b2D (ixO 0 (kD (.int 0))) (varD .str 1) modD))
    (seqF (subF 0 (kD (.int 0)) (b2D (ixO 0 (kD (.int 0))) (varD .str 1) fdivD))
    (retP (varD .bas 2)))) skipF)
    (seqF (subF 0 (kD (.int 2)) (b2D (ixO 0 (kD (.int 2))) (kD (.int 1)) addD))
    (seqF (setP 3 (kD (.int 2305843009213693951)))
    (seqF (setP 4 (b2D (b2D (ixO 0 (kD (.int 1))) (b2D (kD (.int 1000003)) (ixO 0 (kD (.int 2))) mulT) addD) (varD .str 3) modD))
    (seqF (setP 4 (b2D (b2D (b2D (b2D (varD .str 4) (varD .str 4) mulT) (b2D (kD (.int 7919)) (b2D (ixO 0 (kD (.int 2))) (kD (.int 2)) powD) mulT) addD) (kD (.int 5)) addD) (varD .str 3) modD))
    (retP (b2D (b2D (b2D (b2D (varD .bas 4) (kD (.int 3)) powD) (varD .bas 3) modD) (kD (.int 13)) fdivD) (varD .bas 1) modD)))))))
def F_law_take : List D → List D → Option (D × List D) := runB 1 5 b_law_take
theorem fn_law_take (T : Txt K mg) : BFn P w K mg base 1 "_law_take" F_law_take := by
  obtain ⟨f, fd, F, bi, hm⟩ := T.d_law_take.ex
  exact bfn_mk F sc_law_take bi hm rfl rfl (fun B cdv A outer s H E hr =>
      (ds_cons (ds_if (det_of (dt_cmp (m := .bas) op_gt o_cmp (dp_ixO (i := 0) rfl dp_int) dp_int (nomark _))) (ds_cons (ds_setP (i := 2) sc_law_take.nd rfl (by first | exact Or.inl rfl | exact Or.inr rfl) (dp_op op_mod o_mod (dp_ixO (i := 0) rfl dp_int) (dp_var 1)))
      (ds_cons (ds_sub (i := 0) rfl dp_int (dp_op op_fdivW o_fdiv (dp_ixO (i := 0) rfl dp_int) (dp_var 1)))
      (ds_one (ds_ret (dp_var 2))))) ds_nil)
      (ds_cons (ds_sub (i := 0) rfl dp_int (dp_op op_addA o_add (dp_ixO (i := 0) rfl dp_int) dp_int))
      (ds_cons (ds_setP (i := 3) sc_law_take.nd rfl (by first | exact Or.inl rfl | exact Or.inr rfl) dp_int)
      (ds_cons (ds_setP (i := 4) sc_law_take.nd rfl (by first | exact Or.inl rfl | exact Or.inr rfl) (dp_op op_mod o_mod (dp_op op_addA o_add (dp_ixO (i := 0) rfl dp_int) (dp_op op_mulT o_mulT dp_int (dp_ixO (i := 0) rfl dp_int))) (dp_var 3)))
      (ds_cons (ds_setP (i := 4) sc_law_take.nd rfl (by first | exact Or.inl rfl | exact Or.inr rfl) (dp_op op_mod o_mod (dp_op op_addA o_add (dp_op op_addA o_add (dp_op op_mulT o_mulT (dp_var 4) (dp_var 4)) (dp_op op_mulT o_mulT dp_int (dp_op op_pow o_pow (dp_ixO (i := 0) rfl dp_int) dp_int))) dp_int) (dp_var 3)))
      (ds_one (ds_ret (dp_op op_mod o_mod (dp_op op_fdivW o_fdiv (dp_op op_mod o_mod (dp_op op_pow o_pow (dp_var 4) dp_int) (dp_var 3)) dp_int) (dp_var 1))))))))))
theorem well_F (c t : Int) : F_law_well [.int c, .int t] = some (.list (intsD (wellL c t))) := by
  unfold wellL F_law_well b_law_well
  by_cases h : (1000000000000000000 : Int) ≤ c <;> simp [intsD, h]
theorem bags_fn (T : Txt K mg) : BagsFn P w K mg base 2 := by
  obtain ⟨f, fd, F, bi, hm⟩ := T.d_law_bags.ex
  obtain ⟨fw, fdw, psw, GW, hmw, kpw, biw⟩ := (fn_law_well (P := P) (w := w) (base := base) T).ex
  refine ⟨f, fd, ["_law_script", "_law_most"], F.ok sc_law_bags (fun vs H Q E h => ?_) (fun cdv A outer s H vs Q E hr h => ?_), hm, F.kp, bi⟩
  · obtain ⟨a, ns, n, rfl, _⟩ := h
    rfl
  · obtain ⟨a, ns, n, rfl, h'⟩ := id h
    have der : PSs (cxOf CX0 P w K mg base ["_law_script", "_law_most", "_law_k", "_law_cell"] "_law_bags" (defScope st_law_bags) f cdv A outer s H E).nox (defBody st_law_bags)
        (tRet (tLc (iEnum K (tCons (tOp (rAddA K) (tSl (rSlL K) (tVar 0) tNoPart (tPart (tVar 1))) (tLst (tCons (tC (.int 0)) tNil))) tNil)) (gTup K 2 (gCons (gName 2) (gCons (gName 3) gNil))) tYes
          (tCall (spP F_law_well) [] E0 (tCons (tVar 3) (tCons (tOp (rI CMul fun i j => .int (i * j)) (tC (.int 977)) (tVar 2)) tNil))) [2, 3])) :=
      pss_one (ps_ret (pe_lc (own := [("_law_k", 2), ("_law_cell", 3)]) rfl sc_law_bags.nd
      (pi_enum rfl T.z_enumerate (pa_cons (pe_op op_addA (pe_slice sl_list (pv 0) po_none (po_some (pv 1))) (pe_lst (pa_cons pe_int pa_nil))) pa_nil))
      (blkOk_by (own := [("_law_k", 2), ("_law_cell", 3)]) (N := ["_law_script", "_law_most", "_law_k", "_law_cell"]) (sc := defScope st_law_bags) (by decide +kernel))
      (fun _ _ _ _ _ => pg_tup rfl (pgs_cons (pg_name (i := 2) sc_law_bags.nd rfl (Or.inl rfl)) (pgs_cons (pg_name (i := 3) sc_law_bags.nd rfl (Or.inl rfl)) pgs_nil)))
      (fun _ _ _ _ _ => pts_nil)
      (fun _ _ _ _ _ => pe_call GW hr rfl hmw kpw biw .nil pass0 (pa_cons (pv 3) (pa_cons (pe_op op_mul pe_int (pv 2)) pa_nil)))))
    exact ⟨_, der, bags_read well_F h rfl⟩
def b_law_first_right : Rho → Option Out :=
    (seqF (iteF (toT (orT (tstD (b2D (nD (consA (varD .bas 0) (consA (varD .bas 1) nilA)) F_saves) (nD (consA (nD (consA (kD (.int 4)) (consA (kD (.str "count")) nilA)) tupD) (consA (nD (consA (kD (.int 35)) (consA (kD (.str "idle")) nilA)) tupD) (consA (nD (consA (kD (.int 50)) (consA (kD (.str "idle")) nilA)) tupD) nilA))) lstD) neD)) (tstD (b2D (nD (consA (varD .bas 0) (consA (varD .bas 1) (consA (kD (.int 40)) nilA))) F_saves_until) (kD (.int 2)) neD)))) (retP (kD (.bool false))) skipF)
    (seqF (iteF (toT (tstD (b2D (nD (consA (nD (consA (varD .bas 0) (consA (varD .bas 1) (consA (kD (.int 30)) nilA))) F_unsaved) (consA (nD (consA (varD .bas 0) (consA (varD .bas 1) (consA (kD (.int 30)) nilA))) F_lost) (consA (nD (consA (varD .bas 0) (consA (varD .bas 1) (consA (kD (.int 35)) nilA))) F_unsaved) nilA))) lstD) (nD (consA (kD (.int 2)) (consA (nD (consA (kD (.int 3)) (consA (kD (.int 4)) nilA)) lstD) (consA (kD (.int 0)) nilA))) lstD) neD))) (retP (kD (.bool false))) skipF)
    (seqF (iteF (toT (orT (tstD (b2D (nD (consA (varD .bas 0) (consA (varD .bas 1) nilA)) (lgenD G_walk)) (nD (consA (kD (.int 1)) (consA (kD (.int 2)) (consA (kD (.int 0)) (consA (kD (.int 1)) (consA (kD (.int 2)) (consA (kD (.int 1)) nilA)))))) lstD) neD)) (tstD (b2D (nD (consA (varD .bas 0) (consA (varD .bas 1) nilA)) F_most_unsaved) (kD (.int 2)) neD)))) (retP (kD (.bool false))) skipF)
    (seqF (iteF (toT (orT (tstD (b2D (nD (consA (varD .bas 0) (consA (varD .bas 1) (consA (nD (consA (kD (.int 1)) nilA) tupD) nilA))) F_total_saves) (kD (.int 4)) neD)) (tstD (b2D (nD (consA (varD .bas 1) (consA (kD (.int 30)) (consA (varD .bas 0) (consA (nD (consA (kD (.int 2)) (consA (kD (.int 100)) nilA)) tupD) nilA)))) F_least_unsaved) (kD (.int 1)) neD)))) (retP (kD (.bool false))) skipF)
    (seqF (iteF (toT (tstD (b2D (nD (consA (nD (consA (varD .bas 1) (consA (kD (.int 10)) (consA (kD (.int 2)) nilA))) F_longest_idle) (consA (nD (consA (varD .bas 1) (consA (kD (.int 3)) (consA (kD (.int 2)) nilA))) F_longest_idle) (consA (nD (consA (varD .bas 1) (consA (kD (.int 2)) nilA)) F_fewest_saves) nilA))) lstD) (nD (consA (kD (.int 2)) (consA (kD (.int 1000)) (consA (kD (.int 2)) nilA))) lstD) neD))) (retP (kD (.bool false))) skipF)
    (retP (andV (b2D (nD (consA (varD .bas 0) (consA (varD .bas 1) (consA (kD (.int 0)) nilA))) F_changed_saves) (nD (consA (nD (consA (kD (.int 4)) nilA) lstD) (consA (nD (consA (kD (.int 14)) nilA) lstD) nilA)) tupD) eqD) (b2D (nD (consA (varD .bas 0) (consA (varD .bas 1) (consA (kD (.int 0)) nilA))) F_alike_from) (kD (.int 14)) eqD))))))))
def F_law_first_right : List D → Option D := runF 2 2 b_law_first_right
theorem fn_law_first_right (T : Txt K mg) : Fn P w K mg base 8 "_law_first_right" F_law_first_right := by
  obtain ⟨f, fd, F, bi, hm⟩ := T.d_law_first_right.ex
  exact fn_mk F sc_law_first_right bi hm rfl rfl (fun B cdv A outer s H E hr =>
      (ds_cons (ds_if (det_of (dt_w (dw_or (dt_cmp (m := .bas) (op_neD hr.units) o_ne (dp_call (fn_saves T) hr (by decide) (dpa_cons (dp_var 0) (dpa_cons (dp_var 1) dpa_nil))) (dp_lst (dpa_cons (dp_tup (dpa_cons dp_int (dpa_cons dp_str dpa_nil))) (dpa_cons (dp_tup (dpa_cons dp_int (dpa_cons dp_str dpa_nil))) (dpa_cons (dp_tup (dpa_cons dp_int (dpa_cons dp_str dpa_nil))) dpa_nil)))) (nomark _)) (dw_or1 (dt_cmp (m := .bas) (op_neD hr.units) o_ne (dp_call (fn_saves_until T) hr (by decide) (dpa_cons (dp_var 0) (dpa_cons (dp_var 1) (dpa_cons dp_int dpa_nil)))) dp_int (nomark _)))))) (ds_one (ds_ret dp_bool)) ds_nil)
      (ds_cons (ds_if (det_of (dt_cmp (m := .bas) (op_neD hr.units) o_ne (dp_lst (dpa_cons (dp_call (fn_unsaved T) hr (by decide) (dpa_cons (dp_var 0) (dpa_cons (dp_var 1) (dpa_cons dp_int dpa_nil)))) (dpa_cons (dp_call (fn_lost T) hr (by decide) (dpa_cons (dp_var 0) (dpa_cons (dp_var 1) (dpa_cons dp_int dpa_nil)))) (dpa_cons (dp_call (fn_unsaved T) hr (by decide) (dpa_cons (dp_var 0) (dpa_cons (dp_var 1) (dpa_cons dp_int dpa_nil)))) dpa_nil)))) (dp_lst (dpa_cons dp_int (dpa_cons (dp_lst (dpa_cons dp_int (dpa_cons dp_int dpa_nil))) (dpa_cons dp_int dpa_nil)))) (nomark _))) (ds_one (ds_ret dp_bool)) ds_nil)
      (ds_cons (ds_if (det_of (dt_w (dw_or (dt_cmp (m := .bas) (op_neD hr.units) o_ne (dp_lgen (gl_walk T) hr (by decide) T.z_list (dpa_cons (dp_var 0) (dpa_cons (dp_var 1) dpa_nil))) (dp_lst (dpa_cons dp_int (dpa_cons dp_int (dpa_cons dp_int (dpa_cons dp_int (dpa_cons dp_int (dpa_cons dp_int dpa_nil))))))) (nomark _)) (dw_or1 (dt_cmp (m := .bas) (op_neD hr.units) o_ne (dp_call (fn_most_unsaved T) hr (by decide) (dpa_cons (dp_var 0) (dpa_cons (dp_var 1) dpa_nil))) dp_int (nomark _)))))) (ds_one (ds_ret dp_bool)) ds_nil)
      (ds_cons (ds_if (det_of (dt_w (dw_or (dt_cmp (m := .bas) (op_neD hr.units) o_ne (dp_callV (fn_total_saves T) hr (by decide) (dpa_cons (dp_var 0) (dpa_cons (dp_var 1) (dpa_cons (dp_tup (dpa_cons dp_int dpa_nil)) dpa_nil)))) dp_int (nomark _)) (dw_or1 (dt_cmp (m := .bas) (op_neD hr.units) o_ne (dp_callV (fn_least_unsaved T) hr (by decide) (dpa_cons (dp_var 1) (dpa_cons dp_int (dpa_cons (dp_var 0) (dpa_cons (dp_tup (dpa_cons dp_int (dpa_cons dp_int dpa_nil))) dpa_nil))))) dp_int (nomark _)))))) (ds_one (ds_ret dp_bool)) ds_nil)
      (ds_cons (ds_if (det_of (dt_cmp (m := .bas) (op_neD hr.units) o_ne (dp_lst (dpa_cons (dp_call (fn_longest_idle T) hr (by decide) (dpa_cons (dp_var 1) (dpa_cons dp_int (dpa_cons dp_int dpa_nil)))) (dpa_cons (dp_call (fn_longest_idle T) hr (by decide) (dpa_cons (dp_var 1) (dpa_cons dp_int (dpa_cons dp_int dpa_nil)))) (dpa_cons (dp_call (fn_fewest_saves T) hr (by decide) (dpa_cons (dp_var 1) (dpa_cons dp_int dpa_nil))) dpa_nil)))) (dp_lst (dpa_cons dp_int (dpa_cons dp_int (dpa_cons dp_int dpa_nil)))) (nomark _))) (ds_one (ds_ret dp_bool)) ds_nil)
      (ds_one (ds_ret (dp_and (dp_cmp (op_eqD hr.units) o_eq (dp_call (fn_changed_saves T) hr (by decide) (dpa_cons (dp_var 0) (dpa_cons (dp_var 1) (dpa_cons dp_int dpa_nil)))) (dp_tup (dpa_cons (dp_lst (dpa_cons dp_int dpa_nil)) (dpa_cons (dp_lst (dpa_cons dp_int dpa_nil)) dpa_nil))) (nomark _)) (dp_one (dp_cmp (op_eqD hr.units) o_eq (dp_call (fn_alike_from T) hr (by decide) (dpa_cons (dp_var 0) (dpa_cons (dp_var 1) (dpa_cons dp_int dpa_nil)))) dp_int (nomark _))))))))))))
def b_m_init : Rho → Option Out :=
    (dropE (toE (nD (consA (varD .str 1) nilA) F_check_rule)))
def g_m_init : Rho → Option D := (nD (consA (nD nilA tupD) (consA (kD (.int 0)) (consA (kD (.int 0)) (consA (nD nilA tupD) nilA)))) tupD)
def z_m_init : D := .tuple [.tuple [], .int 0, .int 0, .tuple []]
def F_m_init : Addr → D → Option D := inF b_m_init
theorem fn_m_init (T : Txt K mg) {C : Addr} (Dt : DocT K mg C) : IFn P w K mg base 4 C "Document" F_m_init z_m_init := by
  obtain ⟨f, fd, Fu, bi, h1, h2, h3⟩ := Dt.m_init.ex
  exact ⟨f, fd, ["self", "rule"], init_mk (g0 := g_m_init) Fu sc_m_init Dt.cx (fun ρ => by simp [g_m_init, z_m_init]) (by decide +kernel) (fun B cdv A outer s H E hr =>
      pss_cons ((ds_expr (de_of (dp_call (fn_check_rule T) hr (by decide) (dpa_cons (dp_var 1) dpa_nil))))).ps (pss_cons (ps_fld (pv 0) (dp_var (m := .bas) 1).pe rfl) (pss_one (ps_fld (pv 0) (pe_lst (pa_cons (pe_ex0 (fun B => (dp_tup (dpa_cons (dp_tup dpa_nil) (dpa_cons dp_int (dpa_cons dp_int (dpa_cons (dp_tup dpa_nil) dpa_nil))))))) pa_nil)) rfl)))), bi, ⟨Dt.mks, h1, h2, Dt.kp⟩, Dt.mg_⟩
def b_m_keep (a : Addr) (rl : D) : Rho → Option Out :=
    (seqF (setP 3 (nD (consA (lcD (itD (b2D (nD (consA (selfD a rl) (consA (varD .str 1) nilA)) F_played) (kD (.int 1)) ixD)) [4, 5] (bTup 2 (bCons (bName 4) (bCons (bName 5) bNil))) (tstD (b2D (varD .bas 4) (varD .bas 2) leD)) (varD .str 4)) nilA) tupleD))
    skipF)
def g_m_keep (a : Addr) (rl : D) : Rho → Option D :=
    (nD (consA (varD .bas 1) (consA (varD .bas 2) (consA (nD (consA (selfD a rl) (consA (varD .bas 1) (consA (varD .bas 2) nilA))) F_unsaved_at) (consA (varD .bas 3) nilA)))) tupD)
def F_m_keep : Addr → D → List D → List D → Option (D × List D) := kpF 5 b_m_keep g_m_keep
theorem fn_m_keep (T : Txt K mg) {C : Addr} (Dt : DocT K mg C) : MFn P w K mg base 3 C "keep" F_m_keep := by
  obtain ⟨f, fd, Fu, bi, h1, h2, h3⟩ := Dt.m_keep.ex
  exact mfn_of Fu bi h1 h2 h3 (keep_mk (b := b_m_keep) (g := g_m_keep) Fu sc_m_keep rfl rfl Dt.cx (fun B a l rl sts cdv A outer s H E hr hD =>
      tm_cons (ds_setP (i := 3) sc_m_keep.nd rfl (by first | exact Or.inl rfl | exact Or.inr rfl) (dp_ty call_tuple_of n_tuple T.z_tuple boot_tuple (dpa_cons (dp_lc (own := [("moment", 4), ("reason", 5)]) rfl sc_m_keep.nd (dic_of (di_seq (dp_ix ix_seq o_ix (dp_call (fn_played T) hr (by decide) (dpa_cons (dp_rule hD (pv 0)) (dpa_cons (dp_var 1) dpa_nil))) dp_int))) (blkOk_by (own := [("moment", 4), ("reason", 5)]) (N := ["self", "edits", "time", "done", "moment", "reason"]) (sc := defScope st_m_keep) (by decide +kernel)) (by decide) (fun _ _ _ _ _ => (dg_tup rfl (dgs_cons (dg_name (i := 4) sc_m_keep.nd rfl (by first | exact Or.inl rfl | exact Or.inr rfl) (by first | exact .inl rfl | exact .inr rfl)) (dgs_cons (dg_name (i := 5) sc_m_keep.nd rfl (by first | exact Or.inl rfl | exact Or.inr rfl) (by first | exact .inl rfl | exact .inr rfl)) dgs_nil)))) (fun _ _ _ _ _ => (dts_one (dt_cmp (m := .bas) op_le o_cmp (dp_var 4) (dp_var 2) (nomark _)))) (fun _ _ _ _ _ => (dp_var 4))) dpa_nil))) (tm_nil (pss_one (ps_expr (pe_bm PySem.F.plainAttrs_list PySem.F.slot_list_append PySem.F.type_list_append mt_append (pe_fld (pv 0) rfl) (pa_cons (dp_tup (dpa_cons (dp_var 1) (dpa_cons (dp_var 2) (dpa_cons (dp_call (fn_unsaved_at T) hr (by decide) (dpa_cons (dp_rule hD (pv 0)) (dpa_cons (dp_var 1) (dpa_cons (dp_var 2) dpa_nil)))) (dpa_cons (dp_var 3) dpa_nil))))).pe pa_nil)))))))
def b_m_edit (a : Addr) (rl ls : D) : Rho → Option Out :=
    (seqF (asgF (toE (slD (selfD a ls) noO (soO (kD (.int 2))))) (bTup 2 (bCons (bName 2) (bCons (bName 3) bNil))))
    (seqF (forF (toI (itD (varD .str 1))) (bName 4) (seqF (iteF (toT (notT (tstD (nD (consA (varD .bas 4) (consA (varD .bas 3) (consA (kD (.int 1000000)) nilA))) F_in_range)))) neverF skipF)
    (setP 3 (varD .str 4))))
    (seqF (iteF (toT (tstD (b2D (b2D (nD (consA (varD .bas 2) nilA) lenD) (nD (consA (varD .bas 1) nilA) lenD) addD) (selfD a (.int 60)) gtD))) neverF skipF)
    skipF)))
def s_m_edit : Rho → Option (List D) := (consA (b2D (varD .bas 2) (varD .bas 1) addD) (consA (varD .bas 3) nilA))
def g_m_edit (a : Addr) (ls : D) : Rho → Option D :=
    (b2D (selfD a ls) (kD (.int 2)) ixD)
def F_m_edit : Addr → D → List D → List D → Option (D × List D) := muV (muF 1 4 b_m_edit s_m_edit g_m_edit F_m_keep)
theorem fn_m_edit (T : Txt K mg) {C : Addr} (Dt : DocT K mg C) : MFn P w K mg base 4 C "edit" F_m_edit := by
  obtain ⟨f, fd, Fu, bi, h1, h2, h3⟩ := Dt.m_edit.ex
  exact mfn_star Fu h1 h2 h3 (mutV_mk (pre := b_m_edit) (gs := s_m_edit) (g := g_m_edit) Fu sc_m_edit bi rfl Dt.cx (fun B a l rl sts ls cdv A outer s H E hr hD hl =>
      (tm_cons (ds_asg (de_of (dp_slice (dp_last hD hl (pv 0)) do_none (do_some dp_int))) (dg_tup rfl (dgs_cons (dg_name (i := 2) sc_m_edit.nd rfl (by first | exact Or.inl rfl | exact Or.inr rfl) (by first | exact .inl rfl | exact .inr rfl)) (dgs_cons (dg_name (i := 3) sc_m_edit.nd rfl (by first | exact Or.inl rfl | exact Or.inr rfl) (by first | exact .inl rfl | exact .inr rfl)) dgs_nil))))
      (tm_cons (ds_for PassesOwn.never rfl (die_of (di_seq (dp_var 1))) (dg_name (i := 4) sc_m_edit.nd rfl (by first | exact Or.inl rfl | exact Or.inr rfl) (by first | exact .inl rfl | exact .inr rfl)) (ds_cons (ds_if (det_of (dt_not (dt_val (m := .bas) (dp_call (fn_in_range T) hr (by decide) (dpa_cons (dp_var 4) (dpa_cons (dp_var 3) (dpa_cons (dp_glob (T.g_LAST.choose_spec) ⟨_, rfl⟩) dpa_nil))))))) (ds_one ds_never) ds_nil)
      (ds_one (ds_setP (i := 3) sc_m_edit.nd rfl (by first | exact Or.inl rfl | exact Or.inr rfl) (dp_var 4)))))
      (tm_cons (ds_if (det_of (dt_cmp (m := .bas) op_gt o_cmp (dp_op op_addA o_add (dp_b call_len_seq n_len T.z_len PySem.boot_len (dpa_cons (dp_var 2) dpa_nil)) (dp_b call_len_seq n_len T.z_len PySem.boot_len (dpa_cons (dp_var 1) dpa_nil))) (dp_most hD (pv 0)) (nomark _))) (ds_one ds_never) ds_nil)
      (tm_nil (pss_cons (ps_expr (pe_keep Dt.cx (fn_m_keep T Dt) hr (by decide) (pv 0) (dpa_cons (dp_op op_addA o_add (dp_var 2) (dp_var 1)) (dpa_cons (dp_var 3) dpa_nil)))) (pss_one (ps_ret (pe_ex (g := g_m_edit a) (fun B l rl sts ls hD hl => (dp_ix ix_seq o_ix (dp_last hD hl (pv 0)) dp_int))))))))))))
def b_m_call (a : Addr) (rl ls : D) : Rho → Option Out :=
    (seqF (asgF (toE (slD (selfD a ls) noO (soO (kD (.int 2))))) (bTup 2 (bCons (bName 2) (bCons (bName 3) bNil))))
    (seqF (iteF (toT (notT (tstD (nD (consA (varD .bas 1) (consA (varD .bas 3) (consA (kD (.int 1000000)) nilA))) F_in_range)))) neverF skipF)
    skipF))
def s_m_call : Rho → Option (List D) := (consA (varD .bas 2) (consA (varD .bas 1) nilA))
def g_m_call (a : Addr) (ls : D) : Rho → Option D :=
    (b2D (selfD a ls) (kD (.int 2)) ixD)
def F_m_call : Addr → D → List D → List D → Option (D × List D) := muF 1 3 b_m_call s_m_call g_m_call F_m_keep
theorem fn_m_call (T : Txt K mg) {C : Addr} (Dt : DocT K mg C) : MFn P w K mg base 4 C "__call__" F_m_call := by
  obtain ⟨f, fd, Fu, bi, h1, h2, h3⟩ := Dt.m_call.ex
  exact mfn_of Fu bi h1 h2 h3 (mut_mk (pre := b_m_call) (gs := s_m_call) (g := g_m_call) Fu sc_m_call rfl rfl Dt.cx (fun B a l rl sts ls cdv A outer s H E hr hD hl =>
      (tm_cons (ds_asg (de_of (dp_slice (dp_last hD hl (pv 0)) do_none (do_some dp_int))) (dg_tup rfl (dgs_cons (dg_name (i := 2) sc_m_call.nd rfl (by first | exact Or.inl rfl | exact Or.inr rfl) (by first | exact .inl rfl | exact .inr rfl)) (dgs_cons (dg_name (i := 3) sc_m_call.nd rfl (by first | exact Or.inl rfl | exact Or.inr rfl) (by first | exact .inl rfl | exact .inr rfl)) dgs_nil))))
      (tm_cons (ds_if (det_of (dt_not (dt_val (m := .bas) (dp_call (fn_in_range T) hr (by decide) (dpa_cons (dp_var 1) (dpa_cons (dp_var 3) (dpa_cons (dp_glob (T.g_LAST.choose_spec) ⟨_, rfl⟩) dpa_nil))))))) (ds_one ds_never) ds_nil)
      (tm_nil (pss_cons (ps_expr (pe_keep Dt.cx (fn_m_keep T Dt) hr (by decide) (pv 0) (dpa_cons (dp_var 2) (dpa_cons (dp_var 1) dpa_nil)))) (pss_one (ps_ret (pe_ex (g := g_m_call a) (fun B l rl sts ls hD hl => (dp_ix ix_seq o_ix (dp_last hD hl (pv 0)) dp_int)))))))))))
def b_m_time (a : Addr) (rl ls : D) : Rho → Option Out :=
    (retP (b2D (selfD a ls) (kD (.int 1)) ixD))
def F_m_time : Addr → D → List D → List D → Option (D × List D) := rdF 0 0 b_m_time
theorem fn_m_time (T : Txt K mg) {C : Addr} (Dt : DocT K mg C) : PFn P w K mg base 1 C "time" F_m_time := by
  obtain ⟨p, f, fd, Fu, bi, pr⟩ := Dt.m_time.ex
  exact ⟨p, f, fd, _, rdm_mk (b := b_m_time) Fu sc_m_time rfl rfl Dt.cx (fun B a l rl sts ls cdv A outer s H E hr hD hl =>
      (ds_one (ds_ret (dp_ix ix_seq o_ix (dp_last hD hl (pv 0)) dp_int)))), bi, pr⟩
def b_m_saved (a : Addr) (rl ls : D) : Rho → Option Out :=
    (retP (b2D (selfD a ls) (kD (.int 3)) ixD))
def F_m_saved : Addr → D → List D → List D → Option (D × List D) := rdF 0 0 b_m_saved
theorem fn_m_saved (T : Txt K mg) {C : Addr} (Dt : DocT K mg C) : PFn P w K mg base 1 C "saved" F_m_saved := by
  obtain ⟨p, f, fd, Fu, bi, pr⟩ := Dt.m_saved.ex
  exact ⟨p, f, fd, _, rdm_mk (b := b_m_saved) Fu sc_m_saved rfl rfl Dt.cx (fun B a l rl sts ls cdv A outer s H E hr hD hl =>
      (ds_one (ds_ret (dp_ix ix_seq o_ix (dp_last hD hl (pv 0)) dp_int)))), bi, pr⟩
def b_m_contains (a : Addr) (rl ls : D) : Rho → Option Out :=
    (retP (andV (nD (consA (varD .bas 1) (consA (kD (.int 0)) (consA (kD (.int 1000000)) nilA))) F_in_range) (b2D (varD .bas 1) (b2D (selfD a ls) (kD (.int 3)) ixD) inTD)))
def F_m_contains : Addr → D → List D → List D → Option (D × List D) := rdF 1 1 b_m_contains
theorem fn_m_contains (T : Txt K mg) {C : Addr} (Dt : DocT K mg C) : MFn P w K mg base 2 C "__contains__" F_m_contains := by
  obtain ⟨f, fd, Fu, bi, h1, h2, h3⟩ := Dt.m_contains.ex
  exact mfn_of Fu bi h1 h2 h3 (rdm_mk (b := b_m_contains) Fu sc_m_contains rfl rfl Dt.cx (fun B a l rl sts ls cdv A outer s H E hr hD hl =>
      (ds_one (ds_ret (dp_and (dp_call (fn_in_range T) hr (by decide) (dpa_cons (dp_var 1) (dpa_cons dp_int (dpa_cons (dp_glob (T.g_LAST.choose_spec) ⟨_, rfl⟩) dpa_nil)))) (dp_one (dp_cmp op_in_seq o_inT (dp_var 1) (dp_ix ix_seq o_ix (dp_last hD hl (pv 0)) dp_int) (by rfl))))))))
def b_m_bool (a : Addr) (rl ls : D) : Rho → Option Out :=
    (retP (nD (consA (b2D (b2D (selfD a ls) (kD (.int 2)) ixD) (kD (.int 0)) gtD) nilA) boolBD))
def F_m_bool : Addr → D → List D → List D → Option (D × List D) := rdF 0 0 b_m_bool
theorem fn_m_bool (T : Txt K mg) {C : Addr} (Dt : DocT K mg C) : MFn P w K mg base 1 C "__bool__" F_m_bool := by
  obtain ⟨f, fd, Fu, bi, h1, h2, h3⟩ := Dt.m_bool.ex
  exact mfn_of Fu bi h1 h2 h3 (rdm_mk (b := b_m_bool) Fu sc_m_bool rfl rfl Dt.cx (fun B a l rl sts ls cdv A outer s H E hr hD hl =>
      (ds_one (ds_ret (dp_ty call_bool1 n_boolB T.z_bool boot_bool (dpa_cons (dp_cmp op_gt o_cmp (dp_ix ix_seq o_ix (dp_last hD hl (pv 0)) dp_int) dp_int (nomark _)) dpa_nil))))))
def b_m_len (a : Addr) (rl ls : D) : Rho → Option Out :=
    (retP (nD (consA (b2D (selfD a ls) (kD (.int 0)) ixD) nilA) lenD))
def F_m_len : Addr → D → List D → List D → Option (D × List D) := rdF 0 0 b_m_len
theorem fn_m_len (T : Txt K mg) {C : Addr} (Dt : DocT K mg C) : MFn P w K mg base 1 C "__len__" F_m_len := by
  obtain ⟨f, fd, Fu, bi, h1, h2, h3⟩ := Dt.m_len.ex
  exact mfn_of Fu bi h1 h2 h3 (rdm_mk (b := b_m_len) Fu sc_m_len rfl rfl Dt.cx (fun B a l rl sts ls cdv A outer s H E hr hD hl =>
      (ds_one (ds_ret (dp_b call_len_seq n_len T.z_len PySem.boot_len (dpa_cons (dp_ix ix_seq o_ix (dp_last hD hl (pv 0)) dp_int) dpa_nil))))))
def ruleW : D := .tuple [.int 3, .int 10]
def stW1 : D := .tuple [.tuple [.int 0, .int 2], .int 2, .int 2, .tuple []]
def stW2 : D := .tuple [.tuple [.int 0, .int 2], .int 12, .int 0, .tuple [.int 12]]
theorem w_r1 : F_in_range [.int 0, .int 0, .int 1000000] = some (.bool true) := by kernel_rfl
theorem w_r2 : F_in_range [.int 2, .int 0, .int 1000000] = some (.bool true) := by kernel_rfl
theorem w_r3 : F_in_range [.int 12, .int 2, .int 1000000] = some (.bool true) := by kernel_rfl
theorem w_r4 : F_in_range [.int 12, .int 0, .int 1000000] = some (.bool true) := by kernel_rfl
theorem w_p : F_played [ruleW, (.tuple [.int 0, .int 2])] = some (.tuple [.list [.int 1, .int 2], .list [.tuple [.int 12, .str "idle"]]]) := by kernel_rfl
theorem w_u1 : F_unsaved_at [ruleW, (.tuple [.int 0, .int 2]), .int 2] = some (.int 2) := by kernel_rfl
theorem w_u2 : F_unsaved_at [ruleW, (.tuple [.int 0, .int 2]), .int 12] = some (.int 0) := by kernel_rfl
theorem w_chk (a : Addr) : F_m_init a ruleW = some ruleW := by
  unfold F_m_init inF b_m_init
  have h : F_check_rule [ruleW] = some .none := by kernel_rfl
  simp [h]
theorem w_k1 (a : Addr) (sts : List D) (h : sts.length < 1000) : F_m_keep a ruleW sts [.tuple [.int 0, .int 2], .int 2] = some (.none, sts ++ [stW1]) := by
  unfold F_m_keep kpF b_m_keep g_m_keep
  simp [w_p, w_u1, h, flat, flatL, stW1, lcD, atI, ixN, seqD, compL, wipeR, tupleD]
theorem w_k2 (a : Addr) (sts : List D) (h : sts.length < 1000) : F_m_keep a ruleW sts [.tuple [.int 0, .int 2], .int 12] = some (.none, sts ++ [stW2]) := by
  unfold F_m_keep kpF b_m_keep g_m_keep
  simp [w_p, w_u2, h, flat, flatL, stW2, lcD, atI, ixN, seqD, compL, wipeR, tupleD]
theorem w_c1 : cutD [PyData.tuple [], .int 0, .int 0, .tuple []] none (some 2) = [.tuple [], .int 0] := by kernel_rfl
theorem w_c2 : cutD [PyData.tuple [.int 0, .int 2], .int 2, .int 2, .tuple []] none (some 2) = [.tuple [.int 0, .int 2], .int 2] := by kernel_rfl
theorem w_edit (a : Addr) : F_m_edit a ruleW [z_m_init] [.int 0, .int 2] = some (.int 2, [z_m_init, stW1]) := by
  unfold F_m_edit muV muF b_m_edit s_m_edit g_m_edit
  simp [z_m_init, w_c1, forL, w_r1, w_r2, w_k1, stW1, seqD, flat, flatL, atI, ixN]
theorem w_call (a : Addr) : F_m_call a ruleW [z_m_init, stW1] [.int 12] = some (.int 0, [z_m_init, stW1, stW2]) := by
  unfold F_m_call muF b_m_call s_m_call g_m_call
  simp [stW1, stW2, w_c2, w_r3, w_k2, seqD, flat, flatL, atI, ixN]
theorem w_in (a : Addr) : F_m_contains a ruleW [z_m_init, stW1, stW2] [.int 12] = some (.bool true, [z_m_init, stW1, stW2]) := by
  unfold F_m_contains b_m_contains
  have h2 : inTD (.int 12) (.tuple [.int 12]) = some (.bool true) := by kernel_rfl
  simp [stW2, w_r4, h2]
theorem w_time (a : Addr) : F_m_time a ruleW [z_m_init, stW1, stW2] [] = some (.int 12, [z_m_init, stW1, stW2]) := by
  unfold F_m_time b_m_time
  simp [stW2, atI, ixN]
theorem w_saved (a : Addr) : F_m_saved a ruleW [z_m_init, stW1, stW2] [] = some (.tuple [.int 12], [z_m_init, stW1, stW2]) := by
  unfold F_m_saved b_m_saved
  simp [stW2, atI, ixN]
theorem w_len (a : Addr) : F_m_len a ruleW [z_m_init, stW1, stW2] [] = some (.int 2, [z_m_init, stW1, stW2]) := by
  unfold F_m_len b_m_len
  simp [stW2, atI, ixN]
theorem w_bool (a : Addr) : F_m_bool a ruleW [z_m_init, stW1, stW2] [] = some (.bool false, [z_m_init, stW1, stW2]) := by
  unfold F_m_bool b_m_bool
  simp [stW2, atI, ixN]
theorem doc_tail (T : Txt K mg) (B : Base) (f : Addr) (cdv : Value) (A : Around) (outer : List PySem.Env) (s : Shared) (H : Hp) (E : XK) {j : Nat} (hr : Room j (A.deeper (envOfC "_law_second_right" (defScope st_law_second_right) s.heap.objs.size f cdv))) (hj : 5 ≤ j := by decide) :
    DSs (cxOf CX0 P w K mg base ["_law_paper"] "_law_second_right" (defScope st_law_second_right) f cdv A outer s H E).nox B ((defBody st_law_second_right).drop 4) docF := by
  obtain ⟨C, Dt⟩ := T.doc
  obtain ⟨fi, fdi, psi, GI, bI, MK, mgD⟩ := (fn_m_init (P := P) (w := w) (base := base) T Dt).ex
  obtain ⟨fe, Re, Me, _⟩ := (fn_m_edit (P := P) (w := w) (base := base) T Dt).ex
  obtain ⟨fc, Rc, Cc⟩ := (fn_m_call (P := P) (w := w) (base := base) T Dt).call
  obtain ⟨fb, Rb, Ob⟩ := (fn_m_bool (P := P) (w := w) (base := base) T Dt).own
  obtain ⟨fn, Rn, On⟩ := (fn_m_contains (P := P) (w := w) (base := base) T Dt).own
  obtain ⟨fl, Rl, Ol⟩ := (fn_m_len (P := P) (w := w) (base := base) T Dt).own
  obtain ⟨ps, fs, fds, pss, Gs, bs, Ps⟩ := (fn_m_saved (P := P) (w := w) (base := base) T Dt).ex
  obtain ⟨pt, ft, fdt, pst, Gt, bt, Pt⟩ := (fn_m_time (P := P) (w := w) (base := base) T Dt).ex
  have h5 : Room 5 (A.deeper (envOfC "_law_second_right" (defScope st_law_second_right) s.heap.objs.size f cdv)) := hr.mono hj
  have h4 : Room 4 (A.deeper (envOfC "_law_second_right" (defScope st_law_second_right) s.heap.objs.size f cdv)) := h5.mono (by decide)
  have h2 : Room 2 (A.deeper (envOfC "_law_second_right" (defScope st_law_second_right) s.heap.objs.size f cdv)) := h5.mono (by decide)
  have h1 : Room 1 (A.deeper (envOfC "_law_second_right" (defScope st_law_second_right) s.heap.objs.size f cdv)) := h5.mono (by decide)
  have der : PSs (cxOf CX0 P w K mg base ["_law_paper"] "_law_second_right" (defScope st_law_second_right) f cdv A outer s H E).nox ((defBody st_law_second_right).drop 4)
      (tDoc (cxOf CX0 P w K mg base ["_law_paper"] "_law_second_right" (defScope st_law_second_right) f cdv A outer s H E).nox C F_m_init z_m_init F_m_edit F_m_call F_m_bool F_m_contains F_m_saved F_m_len F_m_time) :=
    pss_cons (ps_set (i := 0) sc_law_second_right.nd rfl (Or.inl rfl) (pe_make MK GI h5 rfl mgD bI .nil pass0 (pa_cons (pe_tup (pa_cons pe_int (pa_cons pe_int pa_nil))) pa_nil)))
      (pss_cons (ps_if (PW.pt (pw_or (pt_cmpR (op_neD hr.units) (pe_methR (pv 0) Dt.cx.cls Me Re h4 (pa_cons pe_int (pa_cons pe_int pa_nil))) pe_int (nomark _))
          (pw_or (pt_cmpR (op_neD hr.units) (StX.pe_callO (pv 0) Cc Rc h4 pass0 (pa_cons pe_int pa_nil)) pe_int (nomark _))
          (pw_or (pt_own (pv 0) Ob Rb h1) (pw_or1 (pt_cmpR (op_notInOwn On Rn h2) pe_int (pv 0) (by rfl)))))))
        (pss_one (ps_ret pe_bl)) pss_nil)
      (pss_one (ps_ret (pe_and (pe_cmpR (op_eqD hr.units) (pe_prop (pv 0) Dt.cx.cls Ps Gs h2 bs .nil pass0 rfl) (pe_tup (pa_cons pe_int pa_nil)) (nomark _))
        (pe_and (pe_cmpR (op_eqD hr.units) (pe_callB (call_lenOwn Ol Rl h2) (by rfl) T.z_len PySem.boot_len (pa_cons (pv 0) pa_nil)) pe_int (nomark _))
          (pe_one (pe_cmpR (op_eqD hr.units) (pe_prop (pv 0) Dt.cx.cls Pt Gt h2 bt .nil pass0 rfl) pe_int (nomark _))))))))
  exact ⟨der.imp (doc_read Dt.cx w_chk (by decide +kernel) w_edit w_call w_bool w_in w_saved w_len w_time)⟩

def b_law_second_right : Rho → Option Out :=
    (seqF (iteF (toT (tstD (b2D (nD (consA (nD (consA (nD (consA (kD (.int 4)) (consA (kD (.int 5)) nilA)) tupD) (consA (nD (consA (kD (.int 6)) (consA (kD (.int 5)) nilA)) tupD) nilA)) F_largest_excess) (consA (nD (consA (nD (consA (kD (.int 4)) (consA (kD (.int 5)) nilA)) tupD) (consA (nD (consA (kD (.int 6)) (consA (kD (.int 9)) nilA)) tupD) nilA)) F_largest_excess) nilA)) lstD) (nD (consA (kD (.int 2)) (consA (kD (.int 3)) nilA)) lstD) neD))) (retP (kD (.bool false))) skipF)
    (seqF (iteF (toT (tstD (b2D (nD (consA (nD (consA (nD (consA (kD (.int 2)) (consA (kD (.int 5)) nilA)) tupD) (consA (nD (consA (kD (.int 4)) (consA (kD (.int 5)) nilA)) tupD) nilA)) F_never_loses_more) (consA (nD (consA (nD (consA (kD (.int 2)) (consA (kD (.int 5)) nilA)) tupD) (consA (nD (consA (kD (.int 4)) (consA (kD (.int 9)) nilA)) tupD) nilA)) F_never_loses_more) nilA)) lstD) (nD (consA (kD (.bool true)) (consA (kD (.bool false)) nilA)) lstD) neD))) (retP (kD (.bool false))) skipF)
    (seqF (iteF (toT (orT (tstD (b2D (nD (consA (nD (consA (kD (.int 6)) (consA (kD (.int 9)) nilA)) tupD) (consA (nD (consA (kD (.int 4)) (consA (kD (.int 5)) nilA)) tupD) nilA)) F_never_saves_more) (kD (.bool true)) notBD)) (tstD (b2D (nD (consA (nD (consA (kD (.int 1)) (consA (kD (.int 5)) nilA)) tupD) (consA (nD (consA (kD (.int 1)) (consA (kD (.int 7)) nilA)) tupD) nilA)) F_alike) (kD (.bool true)) notBD)))) (retP (kD (.bool false))) skipF)
    (seqF (iteF (toT (orT (tstD (b2D (nD (consA (nD (consA (kD (.int 0)) (consA (kD (.int 2)) (consA (kD (.int 4)) (consA (kD (.int 20)) nilA)))) tupD) (consA (nD (consA (kD (.int 4)) (consA (kD (.int 30)) nilA)) tupD) nilA)) F_fitting_rules) (nD (consA (nD (consA (kD (.int 3)) (consA (kD (.int 10)) (consA (kD (.int 10)) nilA))) tupD) nilA) lstD) neD)) (tstD (b2D (nD (consA (nD (consA (kD (.int 0)) (consA (kD (.int 0)) (consA (kD (.int 0)) nilA))) tupD) (consA (nD (consA (nD (consA (kD (.int 0)) (consA (kD (.int 1)) nilA)) tupD) (consA (nD (consA (kD (.int 5)) (consA (kD (.int 3)) nilA)) tupD) nilA)) tupD) nilA)) F_wrong_losses) (nD (consA (kD (.int 0)) (consA (kD (.int 1)) nilA)) lstD) neD)))) (retP (kD (.bool false))) skipF)
    docF))))
def F_law_second_right : List D → Option D := runF 0 1 b_law_second_right
theorem fn_law_second_right (T : Txt K mg) : Fn P w K mg base 6 "_law_second_right" F_law_second_right := by
  obtain ⟨f, fd, F, bi, hm⟩ := T.d_law_second_right.ex
  exact fn_mk F sc_law_second_right bi hm rfl rfl (fun B cdv A outer s H E hr =>
      (ds_cons (ds_if (det_of (dt_cmp (m := .bas) (op_neD hr.units) o_ne (dp_lst (dpa_cons (dp_call (fn_largest_excess T) hr (by decide) (dpa_cons (dp_tup (dpa_cons dp_int (dpa_cons dp_int dpa_nil))) (dpa_cons (dp_tup (dpa_cons dp_int (dpa_cons dp_int dpa_nil))) dpa_nil))) (dpa_cons (dp_call (fn_largest_excess T) hr (by decide) (dpa_cons (dp_tup (dpa_cons dp_int (dpa_cons dp_int dpa_nil))) (dpa_cons (dp_tup (dpa_cons dp_int (dpa_cons dp_int dpa_nil))) dpa_nil))) dpa_nil))) (dp_lst (dpa_cons dp_int (dpa_cons dp_int dpa_nil))) (nomark _))) (ds_one (ds_ret dp_bool)) ds_nil)
      (ds_cons (ds_if (det_of (dt_cmp (m := .bas) (op_neD hr.units) o_ne (dp_lst (dpa_cons (dp_call (fn_never_loses_more T) hr (by decide) (dpa_cons (dp_tup (dpa_cons dp_int (dpa_cons dp_int dpa_nil))) (dpa_cons (dp_tup (dpa_cons dp_int (dpa_cons dp_int dpa_nil))) dpa_nil))) (dpa_cons (dp_call (fn_never_loses_more T) hr (by decide) (dpa_cons (dp_tup (dpa_cons dp_int (dpa_cons dp_int dpa_nil))) (dpa_cons (dp_tup (dpa_cons dp_int (dpa_cons dp_int dpa_nil))) dpa_nil))) dpa_nil))) (dp_lst (dpa_cons dp_bool (dpa_cons dp_bool dpa_nil))) (nomark _))) (ds_one (ds_ret dp_bool)) ds_nil)
      (ds_cons (ds_if (det_of (dt_w (dw_or (dt_cmp (m := .bas) op_notBl o_notB (dp_call (fn_never_saves_more T) hr (by decide) (dpa_cons (dp_tup (dpa_cons dp_int (dpa_cons dp_int dpa_nil))) (dpa_cons (dp_tup (dpa_cons dp_int (dpa_cons dp_int dpa_nil))) dpa_nil))) dp_bool (nomark _)) (dw_or1 (dt_cmp (m := .bas) op_notBl o_notB (dp_call (fn_alike T) hr (by decide) (dpa_cons (dp_tup (dpa_cons dp_int (dpa_cons dp_int dpa_nil))) (dpa_cons (dp_tup (dpa_cons dp_int (dpa_cons dp_int dpa_nil))) dpa_nil))) dp_bool (nomark _)))))) (ds_one (ds_ret dp_bool)) ds_nil)
      (ds_cons (ds_if (det_of (dt_w (dw_or (dt_cmp (m := .bas) (op_neD hr.units) o_ne (dp_call (fn_fitting_rules T) hr (by decide) (dpa_cons (dp_tup (dpa_cons dp_int (dpa_cons dp_int (dpa_cons dp_int (dpa_cons dp_int dpa_nil))))) (dpa_cons (dp_tup (dpa_cons dp_int (dpa_cons dp_int dpa_nil))) dpa_nil))) (dp_lst (dpa_cons (dp_tup (dpa_cons dp_int (dpa_cons dp_int (dpa_cons dp_int dpa_nil)))) dpa_nil)) (nomark _)) (dw_or1 (dt_cmp (m := .bas) (op_neD hr.units) o_ne (dp_call (fn_wrong_losses T) hr (by decide) (dpa_cons (dp_tup (dpa_cons dp_int (dpa_cons dp_int (dpa_cons dp_int dpa_nil)))) (dpa_cons (dp_tup (dpa_cons (dp_tup (dpa_cons dp_int (dpa_cons dp_int dpa_nil))) (dpa_cons (dp_tup (dpa_cons dp_int (dpa_cons dp_int dpa_nil))) dpa_nil))) dpa_nil))) (dp_lst (dpa_cons dp_int (dpa_cons dp_int dpa_nil))) (nomark _)))))) (ds_one (ds_ret dp_bool)) ds_nil)
      (doc_tail T B f cdv A outer s H E hr))))))
def c_law_plain_right_1 : Rho → Option D :=
    (lcD (nI (consA (varD .str 2) nilA) rng1) [6] (bName 6) yesT (b2D (varD .str 1) (varD .str 6) mulT))
def b_law_plain_right : Rho → Option Out :=
    (seqF (parF3 3 4 5 (consEA (toE (nD (consA (varD .str 0) (consA (varD .str 1) nilA)) tupD)) (consEA (toE (b2D (nD (consA (kD (.int 0)) nilA) tupD) (varD .str 2) mulT)) (consEA (toE (nD (consA c_law_plain_right_1 nilA) tupleD)) nilEA))))
    (seqF (iteF (toT (orT (tstD (b2D (nD (consA (varD .bas 3) (consA (varD .bas 4) (consA (kD (.int 0)) nilA))) F_unsaved) (b2D (varD .bas 2) (varD .bas 0) modD) neD)) (tstD (b2D (nD (consA (varD .bas 3) (consA (varD .bas 4) (consA (kD (.int 0)) nilA))) F_saves_until) (b2D (varD .bas 2) (varD .bas 0) fdivD) neD)))) (retP (kD (.bool false))) skipF)
    (seqF (iteF (toT (orT (tstD (b2D (nD (consA (nD (consA (varD .bas 3) (consA (varD .bas 4) nilA)) F_saves) nilA) lenD) (b2D (b2D (b2D (varD .bas 2) (varD .bas 0) addD) (kD (.int 1)) subD) (varD .bas 0) fdivD) neD)) (tstD (b2D (nD (consA (nD (consA (varD .bas 3) (consA (varD .bas 5) nilA)) F_saves) nilA) lenD) (varD .bas 2) neD)))) (retP (kD (.bool false))) skipF)
    (seqF (iteF (toT (orT (tstD (b2D (nD (consA (varD .bas 3) (consA (varD .bas 5) nilA)) F_most_unsaved) (nD (consA (andV (b2D (varD .bas 0) (kD (.int 1)) gtD) (b2D (varD .bas 2) (kD (.int 0)) gtD)) nilA) intD) neD)) (tstD (b2D (nD (consA (varD .bas 3) (consA (varD .bas 4) nilA)) F_most_unsaved) (nD (consA (b2D (varD .bas 0) (kD (.int 1)) subD) (consA (varD .bas 2) nilA)) min2D) neD)))) (retP (kD (.bool false))) skipF)
    (seqF (iteF (toT (tstD (b2D (nD (consA (varD .bas 3) (consA (varD .bas 4) (consA (kD (.int 0)) nilA))) F_lost) (nD (consA (b2D (varD .bas 2) (b2D (varD .bas 2) (varD .bas 0) modD) subD) (consA (varD .bas 2) nilA)) lrgD) neD))) (retP (kD (.bool false))) skipF)
    (retP (andV (b2D (nD (consA (varD .bas 3) (consA (varD .bas 1) (consA (varD .bas 2) nilA))) F_regular_saves) (varD .bas 2) eqD) (b2D (nD (consA (varD .bas 3) (consA (kD (.int 0)) (consA (varD .bas 2) nilA))) F_regular_saves) (b2D (b2D (b2D (varD .bas 2) (varD .bas 0) addD) (kD (.int 1)) subD) (varD .bas 0) fdivD) eqD))))))))
def F_law_plain_right : List D → Option D := runF 3 7 b_law_plain_right
theorem fn_law_plain_right (T : Txt K mg) : Fn P w K mg base 5 "_law_plain_right" F_law_plain_right := by
  obtain ⟨f, fd, F, bi, hm⟩ := T.d_law_plain_right.ex
  exact fn_mk F sc_law_plain_right bi hm rfl rfl (fun B cdv A outer s H E hr =>
      (ds_cons (ds_par3 rfl sc_law_plain_right.nd rfl rfl rfl (by decide) (by decide) (by decide) rfl rfl rfl (dea_cons (de_of (dp_tup (dpa_cons (dp_var 0) (dpa_cons (dp_var 1) dpa_nil)))) (dea_cons (de_of (dp_op op_mulT o_mulT (dp_tup (dpa_cons dp_int dpa_nil)) (dp_var 2))) (dea_cons (de_of (dp_ty call_tuple_of n_tuple T.z_tuple boot_tuple (dpa_cons (dp_lc (own := [("_law_turn", 6)]) rfl sc_law_plain_right.nd (dic_of (di_rng1 T.z_range (dpa_cons (dp_var 2) dpa_nil))) (blkOk_by (own := [("_law_turn", 6)]) (N := ["_law_count", "_law_idle", "_law_many", "_law_rule", "_law_heap", "_law_row", "_law_turn"]) (sc := defScope st_law_plain_right) (by decide +kernel)) (by decide) (fun _ _ _ _ _ => (dg_name (i := 6) sc_law_plain_right.nd rfl (by first | exact Or.inl rfl | exact Or.inr rfl) (by first | exact .inl rfl | exact .inr rfl))) (fun _ _ _ _ _ => dts_nil) (fun _ _ _ _ _ => (dp_op op_mulT o_mulT (dp_var 1) (dp_var 6)))) dpa_nil))) dea_nil))) rfl)
      (ds_cons (ds_if (det_of (dt_w (dw_or (dt_cmp (m := .bas) (op_neD hr.units) o_ne (dp_call (fn_unsaved T) hr (by decide) (dpa_cons (dp_var 3) (dpa_cons (dp_var 4) (dpa_cons dp_int dpa_nil)))) (dp_op op_mod o_mod (dp_var 2) (dp_var 0)) (nomark _)) (dw_or1 (dt_cmp (m := .bas) (op_neD hr.units) o_ne (dp_call (fn_saves_until T) hr (by decide) (dpa_cons (dp_var 3) (dpa_cons (dp_var 4) (dpa_cons dp_int dpa_nil)))) (dp_op op_fdivW o_fdiv (dp_var 2) (dp_var 0)) (nomark _)))))) (ds_one (ds_ret dp_bool)) ds_nil)
      (ds_cons (ds_if (det_of (dt_w (dw_or (dt_cmp (m := .bas) (op_neD hr.units) o_ne (dp_b call_len_seq n_len T.z_len PySem.boot_len (dpa_cons (dp_call (fn_saves T) hr (by decide) (dpa_cons (dp_var 3) (dpa_cons (dp_var 4) dpa_nil))) dpa_nil)) (dp_op op_fdivW o_fdiv (dp_op op_sub o_sub (dp_op op_addA o_add (dp_var 2) (dp_var 0)) dp_int) (dp_var 0)) (nomark _)) (dw_or1 (dt_cmp (m := .bas) (op_neD hr.units) o_ne (dp_b call_len_seq n_len T.z_len PySem.boot_len (dpa_cons (dp_call (fn_saves T) hr (by decide) (dpa_cons (dp_var 3) (dpa_cons (dp_var 5) dpa_nil))) dpa_nil)) (dp_var 2) (nomark _)))))) (ds_one (ds_ret dp_bool)) ds_nil)
      (ds_cons (ds_if (det_of (dt_w (dw_or (dt_cmp (m := .bas) (op_neD hr.units) o_ne (dp_call (fn_most_unsaved T) hr (by decide) (dpa_cons (dp_var 3) (dpa_cons (dp_var 5) dpa_nil))) (dp_ty call_int1 n_int T.z_int boot_int (dpa_cons (dp_and (dp_cmp op_gt o_cmp (dp_var 0) dp_int (nomark _)) (dp_one (dp_cmp op_gt o_cmp (dp_var 2) dp_int (nomark _)))) dpa_nil)) (nomark _)) (dw_or1 (dt_cmp (m := .bas) (op_neD hr.units) o_ne (dp_call (fn_most_unsaved T) hr (by decide) (dpa_cons (dp_var 3) (dpa_cons (dp_var 4) dpa_nil))) (dp_b (call_min2 rfl) n_min2 T.z_min boot_min (dpa_cons (dp_op op_sub o_sub (dp_var 0) dp_int) (dpa_cons (dp_var 2) dpa_nil))) (nomark _)))))) (ds_one (ds_ret dp_bool)) ds_nil)
      (ds_cons (ds_if (det_of (dt_cmp (m := .bas) (op_neD hr.units) o_ne (dp_call (fn_lost T) hr (by decide) (dpa_cons (dp_var 3) (dpa_cons (dp_var 4) (dpa_cons dp_int dpa_nil)))) (dp_lrg2 rfl T.z_list T.z_range (dp_op op_sub o_sub (dp_var 2) (dp_op op_mod o_mod (dp_var 2) (dp_var 0))) (dp_var 2)) (nomark _))) (ds_one (ds_ret dp_bool)) ds_nil)
      (ds_one (ds_ret (dp_and (dp_cmp (op_eqD hr.units) o_eq (dp_call (fn_regular_saves T) hr (by decide) (dpa_cons (dp_var 3) (dpa_cons (dp_var 1) (dpa_cons (dp_var 2) dpa_nil)))) (dp_var 2) (nomark _)) (dp_one (dp_cmp (op_eqD hr.units) o_eq (dp_call (fn_regular_saves T) hr (by decide) (dpa_cons (dp_var 3) (dpa_cons dp_int (dpa_cons (dp_var 2) dpa_nil)))) (dp_op op_fdivW o_fdiv (dp_op op_sub o_sub (dp_op op_addA o_add (dp_var 2) (dp_var 0)) dp_int) (dp_var 0)) (nomark _))))))))))))
def b_lawbody : Rho → Option Out :=
    (iteF (notE (tstE (nE (consEA (b2E (toE (kD (.int 1))) (drwE 1 (consEA (toE (kD (.int 20))) nilEA) F_law_take) addD) (consEA (b2E (toE (kD (.int 1))) (drwE 1 (consEA (toE (kD (.int 1000))) nilEA) F_law_take) addD) (consEA (drwE 1 (consEA (toE (kD (.int 61))) nilEA) F_law_take) nilEA))) F_law_plain_right))) (retP (kD (.bool false))) skipF)
def b_law (a : Addr) (ns : List Int) : Rho → Option Out :=
    (seqF (lawF 1 0 6 a ns b_lawbody)
    (retP (andV (nD (consA (nD (consA (kD (.int 3)) (consA (kD (.int 10)) nilA)) tupD) (consA (nD (consA (kD (.int 0)) (consA (kD (.int 2)) (consA (kD (.int 4)) (consA (kD (.int 20)) (consA (kD (.int 25)) (consA (kD (.int 40)) nilA)))))) tupD) nilA)) F_law_first_right) (nD nilA F_law_second_right))))
theorem ok_law {f : Addr} {fd : FuncData} (F : L2.Fun K "law" "law" st_law f fd) (T : Txt K mg) (hw : ∀ (a : Addr) (ns : List Int), ns.length ≤ 63 → ∃ ρ', b_law a ns (.raw (.ref a) :: List.replicate 1 .nil) = some (.rt (.bool true) ρ')) :
    FnOk P w K mg base CX0 10 f fd ["_law_script"] (spLaw K) := by
  refine F.ok sc_law (fun vs H Q E h => ?_) (fun cdv A outer s H vs Q E hr h => ?_)
  · obtain ⟨a, ns, rfl, _⟩ := h
    rfl
  · obtain ⟨a, ns, rfl, hS, hns, q⟩ := h
    obtain ⟨ρ', e⟩ := hw a ns hns
    generalize hB : (⟨H, fun _ => False, fun _ => False⟩ : Base) = B
    have hR : ∀ b, ¬ B.R b := by subst hB; exact fun _ z => z
    have hO : ∀ b, ¬ B.O0 b := by subst hB; exact fun _ z => z
    have hS : SqL K B.H0 a (ns.map V.int) := by subst hB; exact hS
    have der : DSs (cxOf CX0 P w K mg base ["_law_script", "_law_bag"] "law" (defScope st_law) f cdv A outer s H E).nox B (defBody st_law) (b_law a ns) :=
      (ds_cons (ds_law (i := 1) (l := 0) (n := 6) (bags_fn T) hr (by decide) hR hO hS hns (by decide) PassesOwn.never rfl sc_law.nd rfl (by first | exact Or.inl rfl | exact Or.inr rfl) rfl (ds_one (ds_if (det_not (det_val (de_call (fn_law_plain_right T) hr (by decide) (dea_cons (de_op op_addA o_add (de_of dp_int) (de_drw (i := 1) (fn_law_take T) hr (by decide) rfl (dea_cons (de_of dp_int) dea_nil))) (dea_cons (de_op op_addA o_add (de_of dp_int) (de_drw (i := 1) (fn_law_take T) hr (by decide) rfl (dea_cons (de_of dp_int) dea_nil))) (dea_cons (de_drw (i := 1) (fn_law_take T) hr (by decide) rfl (dea_cons (de_of dp_int) dea_nil)) dea_nil)))))) (ds_one (ds_ret dp_bool)) ds_nil)))
      (ds_one (ds_ret (dp_and (dp_call (fn_law_first_right T) hr (by decide) (dpa_cons (dp_tup (dpa_cons dp_int (dpa_cons dp_int dpa_nil))) (dpa_cons (dp_tup (dpa_cons dp_int (dpa_cons dp_int (dpa_cons dp_int (dpa_cons dp_int (dpa_cons dp_int (dpa_cons dp_int dpa_nil))))))) dpa_nil))) (dp_one (dp_call0 (fn_law_second_right T) hr (by decide)))))))
    subst hB
    exact ⟨_, der.ps, fun _ => False, _, _, good_law H a 1, e, fun v σ' H' O' s3 g3 r3 => by rw [rep_bool.mp r3]; exact q H'⟩
end
theorem all_mk {l : PySem.W.OpenLaw} {w : World} {K : PySem.W.Frag} {h : Heap} {mg : Str → Option Value} {fa f0 f1 f2 f3 f4 f5 f6 f7 f8 f9 f10 f11 f12 f13 f14 f15 f16 f17 f18 f19 f20 f21 f22 f23 f24 f25 f26 f27 f28 f29 f30 f31 f32 f33 f34 f35 f36 f37 f38 f39 f40 f41 f42 f43 f44 f45 f46 f47 f48 f49 : Addr} (X : K.In h) (G : h.Ns mainGlobals mg) (hfa : mg "law" = some (.ref fa))
    {od0 an0 od1 an1 od2 an2 od3 an3 od4 an4 od5 an5 od6 an6 od7 an7 od8 an8 od9 an9 od10 an10 od11 an11 od12 an12 od13 an13 od14 an14 od15 an15 od16 an16 od17 an17 od18 an18 od19 an19 od20 an20 od21 an21 od22 an22 od23 an23 od24 an24 od25 an25 od26 an26 od27 an27 od28 an28 od29 an29 od30 an30 od31 an31 od32 an32 od33 an33 od34 an34 od35 an35 od36 an36 od37 an37 od38 an38 od39 an39 od40 an40 od41 an41 od42 an42 od43 an43 od44 an44 od45 an45 od46 an46 od47 an47 od48 an48 od49 an49 : Option Addr} {sl0 sl1 sl2 sl3 sl4 sl5 sl6 sl7 sl8 sl9 sl10 sl11 sl12 sl13 sl14 sl15 sl16 sl17 sl18 sl19 sl20 sl21 sl22 sl23 sl24 sl25 sl26 sl27 sl28 sl29 sl30 sl31 sl32 sl33 sl34 sl35 sl36 sl37 sl38 sl39 sl40 sl41 sl42 sl43 sl44 sl45 sl46 sl47 sl48 sl49 : Array (Option Value)} {oc0 kV0 dc0 pm0 cd0 ct0 oc1 kV1 dc1 pm1 cd1 ct1 oc2 kV2 dc2 pm2 cd2 ct2 oc3 kV3 dc3 pm3 cd3 ct3 oc4 kV4 dc4 pm4 cd4 ct4 oc5 kV5 dc5 pm5 cd5 ct5 oc6 kV6 dc6 pm6 cd6 ct6 oc7 kV7 dc7 pm7 cd7 ct7 oc8 kV8 dc8 pm8 cd8 ct8 oc9 kV9 dc9 pm9 cd9 ct9 oc10 kV10 dc10 pm10 cd10 ct10 oc11 kV11 dc11 pm11 cd11 ct11 oc12 kV12 dc12 pm12 cd12 ct12 oc13 kV13 dc13 pm13 cd13 ct13 oc14 kV14 dc14 pm14 cd14 ct14 oc15 kV15 dc15 pm15 cd15 ct15 oc16 kV16 dc16 pm16 cd16 ct16 oc17 kV17 dc17 pm17 cd17 ct17 oc18 kV18 dc18 pm18 cd18 ct18 oc19 kV19 dc19 pm19 cd19 ct19 oc20 kV20 dc20 pm20 cd20 ct20 oc21 kV21 dc21 pm21 cd21 ct21 oc22 kV22 dc22 pm22 cd22 ct22 oc23 kV23 dc23 pm23 cd23 ct23 oc24 kV24 dc24 pm24 cd24 ct24 oc25 kV25 dc25 pm25 cd25 ct25 oc26 kV26 dc26 pm26 cd26 ct26 oc27 kV27 dc27 pm27 cd27 ct27 oc28 kV28 dc28 pm28 cd28 ct28 oc29 kV29 dc29 pm29 cd29 ct29 oc30 kV30 dc30 pm30 cd30 ct30 oc31 kV31 dc31 pm31 cd31 ct31 oc32 kV32 dc32 pm32 cd32 ct32 oc33 kV33 dc33 pm33 cd33 ct33 oc34 kV34 dc34 pm34 cd34 ct34 oc35 kV35 dc35 pm35 cd35 ct35 oc36 kV36 dc36 pm36 cd36 ct36 oc37 kV37 dc37 pm37 cd37 ct37 oc38 kV38 dc38 pm38 cd38 ct38 oc39 kV39 dc39 pm39 cd39 ct39 oc40 kV40 dc40 pm40 cd40 ct40 oc41 kV41 dc41 pm41 cd41 ct41 oc42 kV42 dc42 pm42 cd42 ct42 oc43 kV43 dc43 pm43 cd43 ct43 oc44 kV44 dc44 pm44 cd44 ct44 oc45 kV45 dc45 pm45 cd45 ct45 oc46 kV46 dc46 pm46 cd46 ct46 oc47 kV47 dc47 pm47 cd47 ct47 oc48 kV48 dc48 pm48 cd48 ct48 oc49 kV49 dc49 pm49 cd49 ct49 : Value} {t0 t1 t2 t3 t4 t5 t6 t7 : Tok}
    (a0 : PySem.W.nsIn K mainGlobals "_wall" = some (some (.ref f0))) (l0 : K.lookup f0 = some ⟨oc0, od0, .func (PySem.W.fnOf "_wall" "_wall" (defArgs st_wall) (defBody st_wall) (defScope st_wall) .none kV0 dc0 pm0 an0 cd0 ct0), sl0⟩) (c0 : PySem.W.codeIn K cd0 "_wall" = true) (k0 : PySem.W.keepIn K (.ref f0) = true)
    (a1 : PySem.W.nsIn K mainGlobals "in_range" = some (some (.ref f1))) (l1 : K.lookup f1 = some ⟨oc1, od1, .func (PySem.W.fnOf "in_range" "in_range" (defArgs st_in_range) (defBody st_in_range) (defScope st_in_range) .none kV1 dc1 pm1 an1 cd1 ct1), sl1⟩) (c1 : PySem.W.codeIn K cd1 "in_range" = true) (k1 : PySem.W.keepIn K (.ref f1) = true)
    (a2 : PySem.W.nsIn K mainGlobals "is_rule" = some (some (.ref f2))) (l2 : K.lookup f2 = some ⟨oc2, od2, .func (PySem.W.fnOf "is_rule" "is_rule" (defArgs st_is_rule) (defBody st_is_rule) (defScope st_is_rule) .none kV2 dc2 pm2 an2 cd2 ct2), sl2⟩) (c2 : PySem.W.codeIn K cd2 "is_rule" = true) (k2 : PySem.W.keepIn K (.ref f2) = true)
    (a3 : PySem.W.nsIn K mainGlobals "is_log" = some (some (.ref f3))) (l3 : K.lookup f3 = some ⟨oc3, od3, .func (PySem.W.fnOf "is_log" "is_log" (defArgs st_is_log) (defBody st_is_log) (defScope st_is_log) .none kV3 dc3 pm3 an3 cd3 ct3), sl3⟩) (c3 : PySem.W.codeIn K cd3 "is_log" = true) (k3 : PySem.W.keepIn K (.ref f3) = true)
    (a4 : PySem.W.nsIn K mainGlobals "check_rule" = some (some (.ref f4))) (l4 : K.lookup f4 = some ⟨oc4, od4, .func (PySem.W.fnOf "check_rule" "check_rule" (defArgs st_check_rule) (defBody st_check_rule) (defScope st_check_rule) .none kV4 dc4 pm4 an4 cd4 ct4), sl4⟩) (c4 : PySem.W.codeIn K cd4 "check_rule" = true) (k4 : PySem.W.keepIn K (.ref f4) = true)
    (a5 : PySem.W.nsIn K mainGlobals "check_log" = some (some (.ref f5))) (l5 : K.lookup f5 = some ⟨oc5, od5, .func (PySem.W.fnOf "check_log" "check_log" (defArgs st_check_log) (defBody st_check_log) (defScope st_check_log) .none kV5 dc5 pm5 an5 cd5 ct5), sl5⟩) (c5 : PySem.W.codeIn K cd5 "check_log" = true) (k5 : PySem.W.keepIn K (.ref f5) = true)
    (a6 : PySem.W.nsIn K mainGlobals "check_time" = some (some (.ref f6))) (l6 : K.lookup f6 = some ⟨oc6, od6, .func (PySem.W.fnOf "check_time" "check_time" (defArgs st_check_time) (defBody st_check_time) (defScope st_check_time) .none kV6 dc6 pm6 an6 cd6 ct6), sl6⟩) (c6 : PySem.W.codeIn K cd6 "check_time" = true) (k6 : PySem.W.keepIn K (.ref f6) = true)
    (a7 : PySem.W.nsIn K mainGlobals "check_number" = some (some (.ref f7))) (l7 : K.lookup f7 = some ⟨oc7, od7, .func (PySem.W.fnOf "check_number" "check_number" (defArgs st_check_number) (defBody st_check_number) (defScope st_check_number) .none kV7 dc7 pm7 an7 cd7 ct7), sl7⟩) (c7 : PySem.W.codeIn K cd7 "check_number" = true) (k7 : PySem.W.keepIn K (.ref f7) = true)
    (a8 : PySem.W.nsIn K mainGlobals "played" = some (some (.ref f8))) (l8 : K.lookup f8 = some ⟨oc8, od8, .func (PySem.W.fnOf "played" "played" (defArgs st_played) (defBody st_played) (defScope st_played) .none kV8 dc8 pm8 an8 cd8 ct8), sl8⟩) (c8 : PySem.W.codeIn K cd8 "played" = true) (k8 : PySem.W.keepIn K (.ref f8) = true)
    (a9 : PySem.W.nsIn K mainGlobals "unsaved_at" = some (some (.ref f9))) (l9 : K.lookup f9 = some ⟨oc9, od9, .func (PySem.W.fnOf "unsaved_at" "unsaved_at" (defArgs st_unsaved_at) (defBody st_unsaved_at) (defScope st_unsaved_at) .none kV9 dc9 pm9 an9 cd9 ct9), sl9⟩) (c9 : PySem.W.codeIn K cd9 "unsaved_at" = true) (k9 : PySem.W.keepIn K (.ref f9) = true)
    (a10 : PySem.W.nsIn K mainGlobals "unsaved" = some (some (.ref f10))) (l10 : K.lookup f10 = some ⟨oc10, od10, .func (PySem.W.fnOf "unsaved" "unsaved" (defArgs st_unsaved) (defBody st_unsaved) (defScope st_unsaved) .none kV10 dc10 pm10 an10 cd10 ct10), sl10⟩) (c10 : PySem.W.codeIn K cd10 "unsaved" = true) (k10 : PySem.W.keepIn K (.ref f10) = true)
    (a11 : PySem.W.nsIn K mainGlobals "lost" = some (some (.ref f11))) (l11 : K.lookup f11 = some ⟨oc11, od11, .func (PySem.W.fnOf "lost" "lost" (defArgs st_lost) (defBody st_lost) (defScope st_lost) .none kV11 dc11 pm11 an11 cd11 ct11), sl11⟩) (c11 : PySem.W.codeIn K cd11 "lost" = true) (k11 : PySem.W.keepIn K (.ref f11) = true)
    (a12 : PySem.W.nsIn K mainGlobals "saves" = some (some (.ref f12))) (l12 : K.lookup f12 = some ⟨oc12, od12, .func (PySem.W.fnOf "saves" "saves" (defArgs st_saves) (defBody st_saves) (defScope st_saves) .none kV12 dc12 pm12 an12 cd12 ct12), sl12⟩) (c12 : PySem.W.codeIn K cd12 "saves" = true) (k12 : PySem.W.keepIn K (.ref f12) = true)
    (a13 : PySem.W.nsIn K mainGlobals "saves_until" = some (some (.ref f13))) (l13 : K.lookup f13 = some ⟨oc13, od13, .func (PySem.W.fnOf "saves_until" "saves_until" (defArgs st_saves_until) (defBody st_saves_until) (defScope st_saves_until) .none kV13 dc13 pm13 an13 cd13 ct13), sl13⟩) (c13 : PySem.W.codeIn K cd13 "saves_until" = true) (k13 : PySem.W.keepIn K (.ref f13) = true)
    (a14 : PySem.W.nsIn K mainGlobals "walk" = some (some (.ref f14))) (l14 : K.lookup f14 = some ⟨oc14, od14, .func (PySem.W.fnOf "walk" "walk" (defArgs st_walk) (defBody st_walk) (defScope st_walk) .none kV14 dc14 pm14 an14 cd14 ct14), sl14⟩) (c14 : PySem.W.codeIn K cd14 "walk" = true) (k14 : PySem.W.keepIn K (.ref f14) = true)
    (a15 : PySem.W.nsIn K mainGlobals "total_saves" = some (some (.ref f15))) (l15 : K.lookup f15 = some ⟨oc15, od15, .func (PySem.W.fnOf "total_saves" "total_saves" (defArgs st_total_saves) (defBody st_total_saves) (defScope st_total_saves) .none kV15 dc15 pm15 an15 cd15 ct15), sl15⟩) (c15 : PySem.W.codeIn K cd15 "total_saves" = true) (k15 : PySem.W.keepIn K (.ref f15) = true)
    (a16 : PySem.W.nsIn K mainGlobals "most_unsaved" = some (some (.ref f16))) (l16 : K.lookup f16 = some ⟨oc16, od16, .func (PySem.W.fnOf "most_unsaved" "most_unsaved" (defArgs st_most_unsaved) (defBody st_most_unsaved) (defScope st_most_unsaved) .none kV16 dc16 pm16 an16 cd16 ct16), sl16⟩) (c16 : PySem.W.codeIn K cd16 "most_unsaved" = true) (k16 : PySem.W.keepIn K (.ref f16) = true)
    (a17 : PySem.W.nsIn K mainGlobals "least_unsaved" = some (some (.ref f17))) (l17 : K.lookup f17 = some ⟨oc17, od17, .func (PySem.W.fnOf "least_unsaved" "least_unsaved" (defArgs st_least_unsaved) (defBody st_least_unsaved) (defScope st_least_unsaved) .none kV17 dc17 pm17 an17 cd17 ct17), sl17⟩) (c17 : PySem.W.codeIn K cd17 "least_unsaved" = true) (k17 : PySem.W.keepIn K (.ref f17) = true)
    (a18 : PySem.W.nsIn K mainGlobals "check_index" = some (some (.ref f18))) (l18 : K.lookup f18 = some ⟨oc18, od18, .func (PySem.W.fnOf "check_index" "check_index" (defArgs st_check_index) (defBody st_check_index) (defScope st_check_index) .none kV18 dc18 pm18 an18 cd18 ct18), sl18⟩) (c18 : PySem.W.codeIn K cd18 "check_index" = true) (k18 : PySem.W.keepIn K (.ref f18) = true)
    (a19 : PySem.W.nsIn K mainGlobals "both" = some (some (.ref f19))) (l19 : K.lookup f19 = some ⟨oc19, od19, .func (PySem.W.fnOf "both" "both" (defArgs st_both) (defBody st_both) (defScope st_both) .none kV19 dc19 pm19 an19 cd19 ct19), sl19⟩) (c19 : PySem.W.codeIn K cd19 "both" = true) (k19 : PySem.W.keepIn K (.ref f19) = true)
    (a20 : PySem.W.nsIn K mainGlobals "left_over" = some (some (.ref f20))) (l20 : K.lookup f20 = some ⟨oc20, od20, .func (PySem.W.fnOf "left_over" "left_over" (defArgs st_left_over) (defBody st_left_over) (defScope st_left_over) .none kV20 dc20 pm20 an20 cd20 ct20), sl20⟩) (c20 : PySem.W.codeIn K cd20 "left_over" = true) (k20 : PySem.W.keepIn K (.ref f20) = true)
    (a21 : PySem.W.nsIn K mainGlobals "changed_saves" = some (some (.ref f21))) (l21 : K.lookup f21 = some ⟨oc21, od21, .func (PySem.W.fnOf "changed_saves" "changed_saves" (defArgs st_changed_saves) (defBody st_changed_saves) (defScope st_changed_saves) .none kV21 dc21 pm21 an21 cd21 ct21), sl21⟩) (c21 : PySem.W.codeIn K cd21 "changed_saves" = true) (k21 : PySem.W.keepIn K (.ref f21) = true)
    (a22 : PySem.W.nsIn K mainGlobals "alike_from" = some (some (.ref f22))) (l22 : K.lookup f22 = some ⟨oc22, od22, .func (PySem.W.fnOf "alike_from" "alike_from" (defArgs st_alike_from) (defBody st_alike_from) (defScope st_alike_from) .none kV22 dc22 pm22 an22 cd22 ct22), sl22⟩) (c22 : PySem.W.codeIn K cd22 "alike_from" = true) (k22 : PySem.W.keepIn K (.ref f22) = true)
    (a23 : PySem.W.nsIn K mainGlobals "longest_run" = some (some (.ref f23))) (l23 : K.lookup f23 = some ⟨oc23, od23, .func (PySem.W.fnOf "longest_run" "longest_run" (defArgs st_longest_run) (defBody st_longest_run) (defScope st_longest_run) .none kV23 dc23 pm23 an23 cd23 ct23), sl23⟩) (c23 : PySem.W.codeIn K cd23 "longest_run" = true) (k23 : PySem.W.keepIn K (.ref f23) = true)
    (a24 : PySem.W.nsIn K mainGlobals "loosest" = some (some (.ref f24))) (l24 : K.lookup f24 = some ⟨oc24, od24, .func (PySem.W.fnOf "loosest" "loosest" (defArgs st_loosest) (defBody st_loosest) (defScope st_loosest) .none kV24 dc24 pm24 an24 cd24 ct24), sl24⟩) (c24 : PySem.W.codeIn K cd24 "loosest" = true) (k24 : PySem.W.keepIn K (.ref f24) = true)
    (a25 : PySem.W.nsIn K mainGlobals "longest_idle" = some (some (.ref f25))) (l25 : K.lookup f25 = some ⟨oc25, od25, .func (PySem.W.fnOf "longest_idle" "longest_idle" (defArgs st_longest_idle) (defBody st_longest_idle) (defScope st_longest_idle) .none kV25 dc25 pm25 an25 cd25 ct25), sl25⟩) (c25 : PySem.W.codeIn K cd25 "longest_idle" = true) (k25 : PySem.W.keepIn K (.ref f25) = true)
    (a26 : PySem.W.nsIn K mainGlobals "fewest_saves" = some (some (.ref f26))) (l26 : K.lookup f26 = some ⟨oc26, od26, .func (PySem.W.fnOf "fewest_saves" "fewest_saves" (defArgs st_fewest_saves) (defBody st_fewest_saves) (defScope st_fewest_saves) .none kV26 dc26 pm26 an26 cd26 ct26), sl26⟩) (c26 : PySem.W.codeIn K cd26 "fewest_saves" = true) (k26 : PySem.W.keepIn K (.ref f26) = true)
    (a27 : PySem.W.nsIn K mainGlobals "common" = some (some (.ref f27))) (l27 : K.lookup f27 = some ⟨oc27, od27, .func (PySem.W.fnOf "common" "common" (defArgs st_common) (defBody st_common) (defScope st_common) .none kV27 dc27 pm27 an27 cd27 ct27), sl27⟩) (c27 : PySem.W.codeIn K cd27 "common" = true) (k27 : PySem.W.keepIn K (.ref f27) = true)
    (a28 : PySem.W.nsIn K mainGlobals "excess" = some (some (.ref f28))) (l28 : K.lookup f28 = some ⟨oc28, od28, .func (PySem.W.fnOf "excess" "excess" (defArgs st_excess) (defBody st_excess) (defScope st_excess) .none kV28 dc28 pm28 an28 cd28 ct28), sl28⟩) (c28 : PySem.W.codeIn K cd28 "excess" = true) (k28 : PySem.W.keepIn K (.ref f28) = true)
    (a29 : PySem.W.nsIn K mainGlobals "largest_excess" = some (some (.ref f29))) (l29 : K.lookup f29 = some ⟨oc29, od29, .func (PySem.W.fnOf "largest_excess" "largest_excess" (defArgs st_largest_excess) (defBody st_largest_excess) (defScope st_largest_excess) .none kV29 dc29 pm29 an29 cd29 ct29), sl29⟩) (c29 : PySem.W.codeIn K cd29 "largest_excess" = true) (k29 : PySem.W.keepIn K (.ref f29) = true)
    (a30 : PySem.W.nsIn K mainGlobals "never_loses_more" = some (some (.ref f30))) (l30 : K.lookup f30 = some ⟨oc30, od30, .func (PySem.W.fnOf "never_loses_more" "never_loses_more" (defArgs st_never_loses_more) (defBody st_never_loses_more) (defScope st_never_loses_more) .none kV30 dc30 pm30 an30 cd30 ct30), sl30⟩) (c30 : PySem.W.codeIn K cd30 "never_loses_more" = true) (k30 : PySem.W.keepIn K (.ref f30) = true)
    (a31 : PySem.W.nsIn K mainGlobals "saves_at_most" = some (some (.ref f31))) (l31 : K.lookup f31 = some ⟨oc31, od31, .func (PySem.W.fnOf "saves_at_most" "saves_at_most" (defArgs st_saves_at_most) (defBody st_saves_at_most) (defScope st_saves_at_most) .none kV31 dc31 pm31 an31 cd31 ct31), sl31⟩) (c31 : PySem.W.codeIn K cd31 "saves_at_most" = true) (k31 : PySem.W.keepIn K (.ref f31) = true)
    (a32 : PySem.W.nsIn K mainGlobals "never_saves_more" = some (some (.ref f32))) (l32 : K.lookup f32 = some ⟨oc32, od32, .func (PySem.W.fnOf "never_saves_more" "never_saves_more" (defArgs st_never_saves_more) (defBody st_never_saves_more) (defScope st_never_saves_more) .none kV32 dc32 pm32 an32 cd32 ct32), sl32⟩) (c32 : PySem.W.codeIn K cd32 "never_saves_more" = true) (k32 : PySem.W.keepIn K (.ref f32) = true)
    (a33 : PySem.W.nsIn K mainGlobals "alike" = some (some (.ref f33))) (l33 : K.lookup f33 = some ⟨oc33, od33, .func (PySem.W.fnOf "alike" "alike" (defArgs st_alike) (defBody st_alike) (defScope st_alike) .none kV33 dc33 pm33 an33 cd33 ct33), sl33⟩) (c33 : PySem.W.codeIn K cd33 "alike" = true) (k33 : PySem.W.keepIn K (.ref f33) = true)
    (a34 : PySem.W.nsIn K mainGlobals "rounded_up" = some (some (.ref f34))) (l34 : K.lookup f34 = some ⟨oc34, od34, .func (PySem.W.fnOf "rounded_up" "rounded_up" (defArgs st_rounded_up) (defBody st_rounded_up) (defScope st_rounded_up) .none kV34 dc34 pm34 an34 cd34 ct34), sl34⟩) (c34 : PySem.W.codeIn K cd34 "rounded_up" = true) (k34 : PySem.W.keepIn K (.ref f34) = true)
    (a35 : PySem.W.nsIn K mainGlobals "regular_saves" = some (some (.ref f35))) (l35 : K.lookup f35 = some ⟨oc35, od35, .func (PySem.W.fnOf "regular_saves" "regular_saves" (defArgs st_regular_saves) (defBody st_regular_saves) (defScope st_regular_saves) .none kV35 dc35 pm35 an35 cd35 ct35), sl35⟩) (c35 : PySem.W.codeIn K cd35 "regular_saves" = true) (k35 : PySem.W.keepIn K (.ref f35) = true)
    (a36 : PySem.W.nsIn K mainGlobals "are_times" = some (some (.ref f36))) (l36 : K.lookup f36 = some ⟨oc36, od36, .func (PySem.W.fnOf "are_times" "are_times" (defArgs st_are_times) (defBody st_are_times) (defScope st_are_times) .none kV36 dc36 pm36 an36 cd36 ct36), sl36⟩) (c36 : PySem.W.codeIn K cd36 "are_times" = true) (k36 : PySem.W.keepIn K (.ref f36) = true)
    (a37 : PySem.W.nsIn K mainGlobals "are_losses" = some (some (.ref f37))) (l37 : K.lookup f37 = some ⟨oc37, od37, .func (PySem.W.fnOf "are_losses" "are_losses" (defArgs st_are_losses) (defBody st_are_losses) (defScope st_are_losses) .none kV37 dc37 pm37 an37 cd37 ct37), sl37⟩) (c37 : PySem.W.codeIn K cd37 "are_losses" = true) (k37 : PySem.W.keepIn K (.ref f37) = true)
    (a38 : PySem.W.nsIn K mainGlobals "times_of" = some (some (.ref f38))) (l38 : K.lookup f38 = some ⟨oc38, od38, .func (PySem.W.fnOf "times_of" "times_of" (defArgs st_times_of) (defBody st_times_of) (defScope st_times_of) .none kV38 dc38 pm38 an38 cd38 ct38), sl38⟩) (c38 : PySem.W.codeIn K cd38 "times_of" = true) (k38 : PySem.W.keepIn K (.ref f38) = true)
    (a39 : PySem.W.nsIn K mainGlobals "ranges_of" = some (some (.ref f39))) (l39 : K.lookup f39 = some ⟨oc39, od39, .func (PySem.W.fnOf "ranges_of" "ranges_of" (defArgs st_ranges_of) (defBody st_ranges_of) (defScope st_ranges_of) .none kV39 dc39 pm39 an39 cd39 ct39), sl39⟩) (c39 : PySem.W.codeIn K cd39 "ranges_of" = true) (k39 : PySem.W.keepIn K (.ref f39) = true)
    (a40 : PySem.W.nsIn K mainGlobals "idle_range" = some (some (.ref f40))) (l40 : K.lookup f40 = some ⟨oc40, od40, .func (PySem.W.fnOf "idle_range" "idle_range" (defArgs st_idle_range) (defBody st_idle_range) (defScope st_idle_range) .none kV40 dc40 pm40 an40 cd40 ct40), sl40⟩) (c40 : PySem.W.codeIn K cd40 "idle_range" = true) (k40 : PySem.W.keepIn K (.ref f40) = true)
    (a41 : PySem.W.nsIn K mainGlobals "fitting_rules" = some (some (.ref f41))) (l41 : K.lookup f41 = some ⟨oc41, od41, .func (PySem.W.fnOf "fitting_rules" "fitting_rules" (defArgs st_fitting_rules) (defBody st_fitting_rules) (defScope st_fitting_rules) .none kV41 dc41 pm41 an41 cd41 ct41), sl41⟩) (c41 : PySem.W.codeIn K cd41 "fitting_rules" = true) (k41 : PySem.W.keepIn K (.ref f41) = true)
    (a42 : PySem.W.nsIn K mainGlobals "wrong_losses" = some (some (.ref f42))) (l42 : K.lookup f42 = some ⟨oc42, od42, .func (PySem.W.fnOf "wrong_losses" "wrong_losses" (defArgs st_wrong_losses) (defBody st_wrong_losses) (defScope st_wrong_losses) .none kV42 dc42 pm42 an42 cd42 ct42), sl42⟩) (c42 : PySem.W.codeIn K cd42 "wrong_losses" = true) (k42 : PySem.W.keepIn K (.ref f42) = true)
    (a43 : PySem.W.nsIn K mainGlobals "_law_well" = some (some (.ref f43))) (l43 : K.lookup f43 = some ⟨oc43, od43, .func (PySem.W.fnOf "_law_well" "_law_well" (defArgs st_law_well) (defBody st_law_well) (defScope st_law_well) .none kV43 dc43 pm43 an43 cd43 ct43), sl43⟩) (c43 : PySem.W.codeIn K cd43 "_law_well" = true) (k43 : PySem.W.keepIn K (.ref f43) = true)
    (a44 : PySem.W.nsIn K mainGlobals "_law_take" = some (some (.ref f44))) (l44 : K.lookup f44 = some ⟨oc44, od44, .func (PySem.W.fnOf "_law_take" "_law_take" (defArgs st_law_take) (defBody st_law_take) (defScope st_law_take) .none kV44 dc44 pm44 an44 cd44 ct44), sl44⟩) (c44 : PySem.W.codeIn K cd44 "_law_take" = true) (k44 : PySem.W.keepIn K (.ref f44) = true)
    (a45 : PySem.W.nsIn K mainGlobals "_law_bags" = some (some (.ref f45))) (l45 : K.lookup f45 = some ⟨oc45, od45, .func (PySem.W.fnOf "_law_bags" "_law_bags" (defArgs st_law_bags) (defBody st_law_bags) (defScope st_law_bags) .none kV45 dc45 pm45 an45 cd45 ct45), sl45⟩) (c45 : PySem.W.codeIn K cd45 "_law_bags" = true) (k45 : PySem.W.keepIn K (.ref f45) = true)
    (a46 : PySem.W.nsIn K mainGlobals "_law_first_right" = some (some (.ref f46))) (l46 : K.lookup f46 = some ⟨oc46, od46, .func (PySem.W.fnOf "_law_first_right" "_law_first_right" (defArgs st_law_first_right) (defBody st_law_first_right) (defScope st_law_first_right) .none kV46 dc46 pm46 an46 cd46 ct46), sl46⟩) (c46 : PySem.W.codeIn K cd46 "_law_first_right" = true) (k46 : PySem.W.keepIn K (.ref f46) = true)
    (a47 : PySem.W.nsIn K mainGlobals "_law_second_right" = some (some (.ref f47))) (l47 : K.lookup f47 = some ⟨oc47, od47, .func (PySem.W.fnOf "_law_second_right" "_law_second_right" (defArgs st_law_second_right) (defBody st_law_second_right) (defScope st_law_second_right) .none kV47 dc47 pm47 an47 cd47 ct47), sl47⟩) (c47 : PySem.W.codeIn K cd47 "_law_second_right" = true) (k47 : PySem.W.keepIn K (.ref f47) = true)
    (a48 : PySem.W.nsIn K mainGlobals "_law_plain_right" = some (some (.ref f48))) (l48 : K.lookup f48 = some ⟨oc48, od48, .func (PySem.W.fnOf "_law_plain_right" "_law_plain_right" (defArgs st_law_plain_right) (defBody st_law_plain_right) (defScope st_law_plain_right) .none kV48 dc48 pm48 an48 cd48 ct48), sl48⟩) (c48 : PySem.W.codeIn K cd48 "_law_plain_right" = true) (k48 : PySem.W.keepIn K (.ref f48) = true)
    (a49 : PySem.W.nsIn K mainGlobals "law" = some (some (.ref f49))) (l49 : K.lookup f49 = some ⟨oc49, od49, .func (PySem.W.fnOf "law" "law" (defArgs st_law) (defBody st_law) (defScope st_law) .none kV49 dc49 pm49 an49 cd49 ct49), sl49⟩) (c49 : PySem.W.codeIn K cd49 "law" = true) (k49 : PySem.W.keepIn K (.ref f49) = true)
    (z0 : PySem.W.nsIn K mainGlobals "all" = some none)
    (z1 : PySem.W.nsIn K mainGlobals "bool" = some none)
    (z2 : PySem.W.nsIn K mainGlobals "enumerate" = some none)
    (z3 : PySem.W.nsIn K mainGlobals "int" = some none)
    (z4 : PySem.W.nsIn K mainGlobals "isinstance" = some none)
    (z5 : PySem.W.nsIn K mainGlobals "len" = some none)
    (z6 : PySem.W.nsIn K mainGlobals "list" = some none)
    (z7 : PySem.W.nsIn K mainGlobals "max" = some none)
    (z8 : PySem.W.nsIn K mainGlobals "min" = some none)
    (z9 : PySem.W.nsIn K mainGlobals "range" = some none)
    (z10 : PySem.W.nsIn K mainGlobals "set" = some none)
    (z11 : PySem.W.nsIn K mainGlobals "sorted" = some none)
    (z12 : PySem.W.nsIn K mainGlobals "sum" = some none)
    (z13 : PySem.W.nsIn K mainGlobals "tuple" = some none)
    (z14 : PySem.W.nsIn K mainGlobals "zip" = some none)
    (w0 : PySem.W.nsIn K mainGlobals "FAR" = some (some (.int 1000000000 t0)))
    (w1 : PySem.W.nsIn K mainGlobals "LAST" = some (some (.int 1000000 t1)))
    (w2 : PySem.W.nsIn K mainGlobals "MOST" = some (some (.int 1000000000000000 t2)))
    (w3 : PySem.W.nsIn K mainGlobals "MOST_COUNT" = some (some (.int 20 t3)))
    (w4 : PySem.W.nsIn K mainGlobals "MOST_EDITS" = some (some (.int 60 t4)))
    (w5 : PySem.W.nsIn K mainGlobals "MOST_IDLE" = some (some (.int 1000 t5)))
    (w6 : PySem.W.nsIn K mainGlobals "MOST_SEEN" = some (some (.int 20 t6)))
    (w7 : PySem.W.nsIn K mainGlobals "SHORT" = some (some (.int 60 t7)))
    {dC fm0 fm1 fm2 fm3 fm4 pm4 fm5 pm5 fm6 fm7 fm8 : Addr} {dm0 am0 dm1 am1 dm2 am2 dm3 am3 dm4 am4 dm5 am5 dm6 am6 dm7 am7 dm8 am8 : Option Addr} {sm0 sm1 sm2 sm3 sm4 sm5 sm6 sm7 sm8 : Array (Option Value)} {om0 vm0 docm0 wm0 xm0 ym0 om1 vm1 docm1 wm1 xm1 ym1 om2 vm2 docm2 wm2 xm2 ym2 om3 vm3 docm3 wm3 xm3 ym3 om4 vm4 docm4 wm4 xm4 ym4 om5 vm5 docm5 wm5 xm5 ym5 om6 vm6 docm6 wm6 xm6 ym6 om7 vm7 docm7 wm7 xm7 ym7 om8 vm8 docm8 wm8 xm8 ym8 : Value} {tM : Tok} {rm4 rm5 : List Value}
    (hC : PySem.W.nsIn K mainGlobals "Document" = some (some (.ref dC)))
    (hpg : PySem.W.plainGet K dC Str.empty = true)
    (hhd : PySem.W.hasDictIn K dC = true)
    (hpo : PySem.W.plainOver K dC = true)
    (hsa : PySem.W.findIn K (.ref dC) "__setattr__" = some (some (.builtin "object.__setattr__")))
    (hmk : PySem.W.makesIn K dC = true)
    (hkc : PySem.W.keepIn K (.ref dC) = true)
    (hnr : PySem.W.findIn K (.ref dC) "rule" = some none)
    (hns : PySem.W.findIn K (.ref dC) "states" = some none)
    (hmo : PySem.W.findIn K (.ref dC) "MOST" = some (some (.int 60 tM)))
    (hmg : PySem.W.specialIn K (.int 60 tM) "__get__" = some none)
    (ma0 : PySem.W.findIn K (.ref dC) "__init__" = some (some (.ref fm0)))
    (ml0 : K.lookup fm0 = some ⟨om0, dm0, .func (PySem.W.fnOf "__init__" "Document.__init__" (defArgs st_m_init) (defBody st_m_init) (defScope st_m_init) .none vm0 docm0 wm0 am0 xm0 ym0), sm0⟩)
    (mc0 : PySem.W.codeIn K xm0 "Document.__init__" = true)
    (mk0 : PySem.W.keepIn K (.ref fm0) = true)
    (mi0 : PySem.W.isFn K (.ref fm0) = true)
    (mf0 : PySem.W.fnIn K fm0 = true)
    (ma1 : PySem.W.findIn K (.ref dC) "keep" = some (some (.ref fm1)))
    (ml1 : K.lookup fm1 = some ⟨om1, dm1, .func (PySem.W.fnOf "keep" "Document.keep" (defArgs st_m_keep) (defBody st_m_keep) (defScope st_m_keep) .none vm1 docm1 wm1 am1 xm1 ym1), sm1⟩)
    (mc1 : PySem.W.codeIn K xm1 "Document.keep" = true)
    (mk1 : PySem.W.keepIn K (.ref fm1) = true)
    (mi1 : PySem.W.isFn K (.ref fm1) = true)
    (mf1 : PySem.W.fnIn K fm1 = true)
    (ma2 : PySem.W.findIn K (.ref dC) "edit" = some (some (.ref fm2)))
    (ml2 : K.lookup fm2 = some ⟨om2, dm2, .func (PySem.W.fnOf "edit" "Document.edit" (defArgs st_m_edit) (defBody st_m_edit) (defScope st_m_edit) .none vm2 docm2 wm2 am2 xm2 ym2), sm2⟩)
    (mc2 : PySem.W.codeIn K xm2 "Document.edit" = true)
    (mk2 : PySem.W.keepIn K (.ref fm2) = true)
    (mi2 : PySem.W.isFn K (.ref fm2) = true)
    (mf2 : PySem.W.fnIn K fm2 = true)
    (ma3 : PySem.W.findIn K (.ref dC) "__call__" = some (some (.ref fm3)))
    (ml3 : K.lookup fm3 = some ⟨om3, dm3, .func (PySem.W.fnOf "__call__" "Document.__call__" (defArgs st_m_call) (defBody st_m_call) (defScope st_m_call) .none vm3 docm3 wm3 am3 xm3 ym3), sm3⟩)
    (mc3 : PySem.W.codeIn K xm3 "Document.__call__" = true)
    (mk3 : PySem.W.keepIn K (.ref fm3) = true)
    (mi3 : PySem.W.isFn K (.ref fm3) = true)
    (mf3 : PySem.W.fnIn K fm3 = true)
    (ma4 : PySem.W.findIn K (.ref dC) "time" = some (some (.ref pm4)))
    (mg4 : PySem.W.specialIn K (.ref pm4) "__get__" = some (some (.builtin "property.__get__")))
    (mt4 : PySem.W.takesIn K (.ref pm4) = some true)
    (mr4 : PySem.W.recIn K pm4 "property" = some (.ref fm4 :: rm4))
    (ml4 : K.lookup fm4 = some ⟨om4, dm4, .func (PySem.W.fnOf "time" "Document.time" (defArgs st_m_time) (defBody st_m_time) (defScope st_m_time) .none vm4 docm4 wm4 am4 xm4 ym4), sm4⟩)
    (mc4 : PySem.W.codeIn K xm4 "Document.time" = true)
    (mk4 : PySem.W.keepIn K (.ref fm4) = true)
    (ma5 : PySem.W.findIn K (.ref dC) "saved" = some (some (.ref pm5)))
    (mg5 : PySem.W.specialIn K (.ref pm5) "__get__" = some (some (.builtin "property.__get__")))
    (mt5 : PySem.W.takesIn K (.ref pm5) = some true)
    (mr5 : PySem.W.recIn K pm5 "property" = some (.ref fm5 :: rm5))
    (ml5 : K.lookup fm5 = some ⟨om5, dm5, .func (PySem.W.fnOf "saved" "Document.saved" (defArgs st_m_saved) (defBody st_m_saved) (defScope st_m_saved) .none vm5 docm5 wm5 am5 xm5 ym5), sm5⟩)
    (mc5 : PySem.W.codeIn K xm5 "Document.saved" = true)
    (mk5 : PySem.W.keepIn K (.ref fm5) = true)
    (ma6 : PySem.W.findIn K (.ref dC) "__contains__" = some (some (.ref fm6)))
    (ml6 : K.lookup fm6 = some ⟨om6, dm6, .func (PySem.W.fnOf "__contains__" "Document.__contains__" (defArgs st_m_contains) (defBody st_m_contains) (defScope st_m_contains) .none vm6 docm6 wm6 am6 xm6 ym6), sm6⟩)
    (mc6 : PySem.W.codeIn K xm6 "Document.__contains__" = true)
    (mk6 : PySem.W.keepIn K (.ref fm6) = true)
    (mi6 : PySem.W.isFn K (.ref fm6) = true)
    (mf6 : PySem.W.fnIn K fm6 = true)
    (ma7 : PySem.W.findIn K (.ref dC) "__bool__" = some (some (.ref fm7)))
    (ml7 : K.lookup fm7 = some ⟨om7, dm7, .func (PySem.W.fnOf "__bool__" "Document.__bool__" (defArgs st_m_bool) (defBody st_m_bool) (defScope st_m_bool) .none vm7 docm7 wm7 am7 xm7 ym7), sm7⟩)
    (mc7 : PySem.W.codeIn K xm7 "Document.__bool__" = true)
    (mk7 : PySem.W.keepIn K (.ref fm7) = true)
    (mi7 : PySem.W.isFn K (.ref fm7) = true)
    (mf7 : PySem.W.fnIn K fm7 = true)
    (ma8 : PySem.W.findIn K (.ref dC) "__len__" = some (some (.ref fm8)))
    (ml8 : K.lookup fm8 = some ⟨om8, dm8, .func (PySem.W.fnOf "__len__" "Document.__len__" (defArgs st_m_len) (defBody st_m_len) (defScope st_m_len) .none vm8 docm8 wm8 am8 xm8 ym8), sm8⟩)
    (mc8 : PySem.W.codeIn K xm8 "Document.__len__" = true)
    (mk8 : PySem.W.keepIn K (.ref fm8) = true)
    (mi8 : PySem.W.isFn K (.ref fm8) = true)
    (mf8 : PySem.W.fnIn K fm8 = true)
    (hw : ∀ (a : Addr) (ns : List Int), ns.length ≤ 63 → ∃ ρ', b_law a ns (.raw (.ref a) :: List.replicate 1 .nil) = some (.rt (.bool true) ρ')) :
    ∃ fd : FuncData, (∀ (s : Shared) (v : Value), BindsTo s fd ⟨[v], []⟩ [("_law_script", v)]) ∧ ∀ base : Heap, K.In base → base.Ns mainGlobals mg → FnOk l.prog w K mg base CX0 10 fa fd ["_law_script"] (spLaw K) := by
  have e := hfa.symm.trans (PySem.W.mg_of X G a49)
  cases e
  have F0 := fun_mk (st := st_wall) l0 c0 k0
  have b0 := F0.binds (ps := ["k"]) fun _ _ _ _ _ _ us hl => match us, hl with | [_], _ => rfl
  have F1 := fun_mk (st := st_in_range) l1 c1 k1
  have b1 := F1.binds (ps := ["value", "low", "high"]) fun _ _ _ _ _ _ us hl => match us, hl with | [_, _, _], _ => rfl
  have F2 := fun_mk (st := st_is_rule) l2 c2 k2
  have b2 := F2.binds (ps := ["value"]) fun _ _ _ _ _ _ us hl => match us, hl with | [_], _ => rfl
  have F3 := fun_mk (st := st_is_log) l3 c3 k3
  have b3 := F3.binds (ps := ["value"]) fun _ _ _ _ _ _ us hl => match us, hl with | [_], _ => rfl
  have F4 := fun_mk (st := st_check_rule) l4 c4 k4
  have b4 := F4.binds (ps := ["value"]) fun _ _ _ _ _ _ us hl => match us, hl with | [_], _ => rfl
  have F5 := fun_mk (st := st_check_log) l5 c5 k5
  have b5 := F5.binds (ps := ["value"]) fun _ _ _ _ _ _ us hl => match us, hl with | [_], _ => rfl
  have F6 := fun_mk (st := st_check_time) l6 c6 k6
  have b6 := F6.binds (ps := ["value"]) fun _ _ _ _ _ _ us hl => match us, hl with | [_], _ => rfl
  have F7 := fun_mk (st := st_check_number) l7 c7 k7
  have b7 := F7.binds (ps := ["value", "low", "high"]) fun _ _ _ _ _ _ us hl => match us, hl with | [_, _, _], _ => rfl
  have F8 := fun_mk (st := st_played) l8 c8 k8
  have b8 := F8.binds (ps := ["rule", "log"]) fun _ _ _ _ _ _ us hl => match us, hl with | [_, _], _ => rfl
  have F9 := fun_mk (st := st_unsaved_at) l9 c9 k9
  have b9 := F9.binds (ps := ["rule", "log", "time"]) fun _ _ _ _ _ _ us hl => match us, hl with | [_, _, _], _ => rfl
  have F10 := fun_mk (st := st_unsaved) l10 c10 k10
  have b10 := F10.binds (ps := ["rule", "log", "time"]) fun _ _ _ _ _ _ us hl => match us, hl with | [_, _, _], _ => rfl
  have F11 := fun_mk (st := st_lost) l11 c11 k11
  have b11 := F11.binds (ps := ["rule", "log", "time"]) fun _ _ _ _ _ _ us hl => match us, hl with | [_, _, _], _ => rfl
  have F12 := fun_mk (st := st_saves) l12 c12 k12
  have b12 := F12.binds (ps := ["rule", "log"]) fun _ _ _ _ _ _ us hl => match us, hl with | [_, _], _ => rfl
  have F13 := fun_mk (st := st_saves_until) l13 c13 k13
  have b13 := F13.binds (ps := ["rule", "log", "time"]) fun _ _ _ _ _ _ us hl => match us, hl with | [_, _, _], _ => rfl
  have F14 := fun_mk (st := st_walk) l14 c14 k14
  have b14 := F14.binds (ps := ["rule", "log"]) fun _ _ _ _ _ _ us hl => match us, hl with | [_, _], _ => rfl
  have F15 := fun_mk (st := st_total_saves) l15 c15 k15
  have b15 := StX.bind_star1 (B := fun us => bindArgs (PySem.W.fnOf "total_saves" "total_saves" (defArgs st_total_saves) (defBody st_total_saves) (defScope st_total_saves) .none kV15 dc15 pm15 an15 cd15 ct15) ⟨us, []⟩) (p1 := "rule") (pv := "logs") (fun _ => rfl) (fun _ _ _ => rfl)
  have F16 := fun_mk (st := st_most_unsaved) l16 c16 k16
  have b16 := F16.binds (ps := ["rule", "log"]) fun _ _ _ _ _ _ us hl => match us, hl with | [_, _], _ => rfl
  have F17 := fun_mk (st := st_least_unsaved) l17 c17 k17
  have b17 := StX.bind_star2 (B := fun us => bindArgs (PySem.W.fnOf "least_unsaved" "least_unsaved" (defArgs st_least_unsaved) (defBody st_least_unsaved) (defScope st_least_unsaved) .none kV17 dc17 pm17 an17 cd17 ct17) ⟨us, []⟩) (p1 := "log") (p2 := "time") (pv := "rules") (fun _ _ => rfl) (fun _ _ _ _ => rfl)
  have F18 := fun_mk (st := st_check_index) l18 c18 k18
  have b18 := F18.binds (ps := ["log", "index"]) fun _ _ _ _ _ _ us hl => match us, hl with | [_, _], _ => rfl
  have F19 := fun_mk (st := st_both) l19 c19 k19
  have b19 := F19.binds (ps := ["rule", "log", "index"]) fun _ _ _ _ _ _ us hl => match us, hl with | [_, _, _], _ => rfl
  have F20 := fun_mk (st := st_left_over) l20 c20 k20
  have b20 := F20.binds (ps := ["times", "others"]) fun _ _ _ _ _ _ us hl => match us, hl with | [_, _], _ => rfl
  have F21 := fun_mk (st := st_changed_saves) l21 c21 k21
  have b21 := F21.binds (ps := ["rule", "log", "index"]) fun _ _ _ _ _ _ us hl => match us, hl with | [_, _, _], _ => rfl
  have F22 := fun_mk (st := st_alike_from) l22 c22 k22
  have b22 := F22.binds (ps := ["rule", "log", "index"]) fun _ _ _ _ _ _ us hl => match us, hl with | [_, _, _], _ => rfl
  have F23 := fun_mk (st := st_longest_run) l23 c23 k23
  have b23 := F23.binds (ps := ["log", "idle"]) fun _ _ _ _ _ _ us hl => match us, hl with | [_, _], _ => rfl
  have F24 := fun_mk (st := st_loosest) l24 c24 k24
  have b24 := F24.binds (ps := ["log", "count", "most"]) fun _ _ _ _ _ _ us hl => match us, hl with | [_, _, _], _ => rfl
  have F25 := fun_mk (st := st_longest_idle) l25 c25 k25
  have b25 := F25.binds (ps := ["log", "count", "most"]) fun _ _ _ _ _ _ us hl => match us, hl with | [_, _, _], _ => rfl
  have F26 := fun_mk (st := st_fewest_saves) l26 c26 k26
  have b26 := F26.binds (ps := ["log", "most"]) fun _ _ _ _ _ _ us hl => match us, hl with | [_, _], _ => rfl
  have F27 := fun_mk (st := st_common) l27 c27 k27
  have b27 := F27.binds (ps := ["one", "other"]) fun _ _ _ _ _ _ us hl => match us, hl with | [_, _], _ => rfl
  have F28 := fun_mk (st := st_excess) l28 c28 k28
  have b28 := F28.binds (ps := ["first", "second"]) fun _ _ _ _ _ _ us hl => match us, hl with | [_, _], _ => rfl
  have F29 := fun_mk (st := st_largest_excess) l29 c29 k29
  have b29 := F29.binds (ps := ["first", "second"]) fun _ _ _ _ _ _ us hl => match us, hl with | [_, _], _ => rfl
  have F30 := fun_mk (st := st_never_loses_more) l30 c30 k30
  have b30 := F30.binds (ps := ["first", "second"]) fun _ _ _ _ _ _ us hl => match us, hl with | [_, _], _ => rfl
  have F31 := fun_mk (st := st_saves_at_most) l31 c31 k31
  have b31 := F31.binds (ps := ["first", "second"]) fun _ _ _ _ _ _ us hl => match us, hl with | [_, _], _ => rfl
  have F32 := fun_mk (st := st_never_saves_more) l32 c32 k32
  have b32 := F32.binds (ps := ["first", "second"]) fun _ _ _ _ _ _ us hl => match us, hl with | [_, _], _ => rfl
  have F33 := fun_mk (st := st_alike) l33 c33 k33
  have b33 := F33.binds (ps := ["first", "second"]) fun _ _ _ _ _ _ us hl => match us, hl with | [_, _], _ => rfl
  have F34 := fun_mk (st := st_rounded_up) l34 c34 k34
  have b34 := F34.binds (ps := ["number", "size"]) fun _ _ _ _ _ _ us hl => match us, hl with | [_, _], _ => rfl
  have F35 := fun_mk (st := st_regular_saves) l35 c35 k35
  have b35 := F35.binds (ps := ["rule", "gap", "number"]) fun _ _ _ _ _ _ us hl => match us, hl with | [_, _, _], _ => rfl
  have F36 := fun_mk (st := st_are_times) l36 c36 k36
  have b36 := F36.binds (ps := ["value"]) fun _ _ _ _ _ _ us hl => match us, hl with | [_], _ => rfl
  have F37 := fun_mk (st := st_are_losses) l37 c37 k37
  have b37 := F37.binds (ps := ["value"]) fun _ _ _ _ _ _ us hl => match us, hl with | [_], _ => rfl
  have F38 := fun_mk (st := st_times_of) l38 c38 k38
  have b38 := F38.binds (ps := ["rule", "log"]) fun _ _ _ _ _ _ us hl => match us, hl with | [_, _], _ => rfl
  have F39 := fun_mk (st := st_ranges_of) l39 c39 k39
  have b39 := F39.binds (ps := ["log"]) fun _ _ _ _ _ _ us hl => match us, hl with | [_], _ => rfl
  have F40 := fun_mk (st := st_idle_range) l40 c40 k40
  have b40 := F40.binds (ps := ["count", "log", "times", "low", "high"]) fun _ _ _ _ _ _ us hl => match us, hl with | [_, _, _, _, _], _ => rfl
  have F41 := fun_mk (st := st_fitting_rules) l41 c41 k41
  have b41 := F41.binds (ps := ["log", "times"]) fun _ _ _ _ _ _ us hl => match us, hl with | [_, _], _ => rfl
  have F42 := fun_mk (st := st_wrong_losses) l42 c42 k42
  have b42 := F42.binds (ps := ["log", "seen"]) fun _ _ _ _ _ _ us hl => match us, hl with | [_, _], _ => rfl
  have F43 := fun_mk (st := st_law_well) l43 c43 k43
  have b43 := F43.binds (ps := ["_law_cell", "_law_turn"]) fun _ _ _ _ _ _ us hl => match us, hl with | [_, _], _ => rfl
  have F44 := fun_mk (st := st_law_take) l44 c44 k44
  have b44 := F44.binds (ps := ["_law_bag", "_law_many"]) fun _ _ _ _ _ _ us hl => match us, hl with | [_, _], _ => rfl
  have F45 := fun_mk (st := st_law_bags) l45 c45 k45
  have b45 := F45.binds (ps := ["_law_script", "_law_most"]) fun _ _ _ _ _ _ us hl => match us, hl with | [_, _], _ => rfl
  have F46 := fun_mk (st := st_law_first_right) l46 c46 k46
  have b46 := F46.binds (ps := ["_law_rule", "_law_log"]) fun _ _ _ _ _ _ us hl => match us, hl with | [_, _], _ => rfl
  have F47 := fun_mk (st := st_law_second_right) l47 c47 k47
  have b47 := F47.binds (ps := []) fun _ _ _ _ _ _ us hl => match us, hl with | [], _ => rfl
  have F48 := fun_mk (st := st_law_plain_right) l48 c48 k48
  have b48 := F48.binds (ps := ["_law_count", "_law_idle", "_law_many"]) fun _ _ _ _ _ _ us hl => match us, hl with | [_, _, _], _ => rfl
  have F49 := fun_mk (st := st_law) l49 c49 k49
  have MF0 := fun_mk (st := st_m_init) ml0 mc0 mk0
  have mb0 := MF0.binds (ps := ["self", "rule"]) fun _ _ _ _ _ _ us hl => match us, hl with | [_, _], _ => rfl
  have MF1 := fun_mk (st := st_m_keep) ml1 mc1 mk1
  have mb1 := MF1.binds (ps := ["self", "edits", "time"]) fun _ _ _ _ _ _ us hl => match us, hl with | [_, _, _], _ => rfl
  have MF2 := fun_mk (st := st_m_edit) ml2 mc2 mk2
  have mb2 := StX.bind_star1 (B := fun us => bindArgs (PySem.W.fnOf "edit" "Document.edit" (defArgs st_m_edit) (defBody st_m_edit) (defScope st_m_edit) .none vm2 docm2 wm2 am2 xm2 ym2) ⟨us, []⟩) (p1 := "self") (pv := "times") (fun _ => rfl) (fun _ _ _ => rfl)
  have MF3 := fun_mk (st := st_m_call) ml3 mc3 mk3
  have mb3 := MF3.binds (ps := ["self", "time"]) fun _ _ _ _ _ _ us hl => match us, hl with | [_, _], _ => rfl
  have MF4 := fun_mk (st := st_m_time) ml4 mc4 mk4
  have mb4 := MF4.binds (ps := ["self"]) fun _ _ _ _ _ _ us hl => match us, hl with | [_], _ => rfl
  have MF5 := fun_mk (st := st_m_saved) ml5 mc5 mk5
  have mb5 := MF5.binds (ps := ["self"]) fun _ _ _ _ _ _ us hl => match us, hl with | [_], _ => rfl
  have MF6 := fun_mk (st := st_m_contains) ml6 mc6 mk6
  have mb6 := MF6.binds (ps := ["self", "time"]) fun _ _ _ _ _ _ us hl => match us, hl with | [_, _], _ => rfl
  have MF7 := fun_mk (st := st_m_bool) ml7 mc7 mk7
  have mb7 := MF7.binds (ps := ["self"]) fun _ _ _ _ _ _ us hl => match us, hl with | [_], _ => rfl
  have MF8 := fun_mk (st := st_m_len) ml8 mc8 mk8
  have mb8 := MF8.binds (ps := ["self"]) fun _ _ _ _ _ _ us hl => match us, hl with | [_], _ => rfl
  have TD : DocT K mg dC := ⟨⟨⟨hpg, hhd, hpo, hsa⟩, hnr, hns, ⟨_, ⟨hmo, ⟨_, rfl⟩, hmg, by decide +kernel⟩⟩⟩, PySem.W.mg_of X G hC, hmk, hkc, ⟨_, _, MF0, mb0, ma0, mi0, mf0⟩, ⟨_, _, MF1, mb1, ma1, mi1, mf1⟩, ⟨_, _, MF2, mb2, ma2, mi2, mf2⟩, ⟨_, _, MF3, mb3, ma3, mi3, mf3⟩, ⟨_, _, _, MF4, mb4, ⟨ma4, mg4, mt4, ⟨_, mr4⟩⟩⟩, ⟨_, _, _, MF5, mb5, ⟨ma5, mg5, mt5, ⟨_, mr5⟩⟩⟩, ⟨_, _, MF6, mb6, ma6, mi6, mf6⟩, ⟨_, _, MF7, mb7, ma7, mi7, mf7⟩, ⟨_, _, MF8, mb8, ma8, mi8, mf8⟩⟩
  have T : Txt K mg := ⟨⟨_, _, F0, b0, PySem.W.mg_of X G a0⟩, ⟨_, _, F1, b1, PySem.W.mg_of X G a1⟩, ⟨_, _, F2, b2, PySem.W.mg_of X G a2⟩, ⟨_, _, F3, b3, PySem.W.mg_of X G a3⟩, ⟨_, _, F4, b4, PySem.W.mg_of X G a4⟩, ⟨_, _, F5, b5, PySem.W.mg_of X G a5⟩, ⟨_, _, F6, b6, PySem.W.mg_of X G a6⟩, ⟨_, _, F7, b7, PySem.W.mg_of X G a7⟩, ⟨_, _, F8, b8, PySem.W.mg_of X G a8⟩, ⟨_, _, F9, b9, PySem.W.mg_of X G a9⟩, ⟨_, _, F10, b10, PySem.W.mg_of X G a10⟩, ⟨_, _, F11, b11, PySem.W.mg_of X G a11⟩, ⟨_, _, F12, b12, PySem.W.mg_of X G a12⟩, ⟨_, _, F13, b13, PySem.W.mg_of X G a13⟩, ⟨_, _, F14, b14, PySem.W.mg_of X G a14⟩, ⟨_, _, F15, b15, PySem.W.mg_of X G a15⟩, ⟨_, _, F16, b16, PySem.W.mg_of X G a16⟩, ⟨_, _, F17, b17, PySem.W.mg_of X G a17⟩, ⟨_, _, F18, b18, PySem.W.mg_of X G a18⟩, ⟨_, _, F19, b19, PySem.W.mg_of X G a19⟩, ⟨_, _, F20, b20, PySem.W.mg_of X G a20⟩, ⟨_, _, F21, b21, PySem.W.mg_of X G a21⟩, ⟨_, _, F22, b22, PySem.W.mg_of X G a22⟩, ⟨_, _, F23, b23, PySem.W.mg_of X G a23⟩, ⟨_, _, F24, b24, PySem.W.mg_of X G a24⟩, ⟨_, _, F25, b25, PySem.W.mg_of X G a25⟩, ⟨_, _, F26, b26, PySem.W.mg_of X G a26⟩, ⟨_, _, F27, b27, PySem.W.mg_of X G a27⟩, ⟨_, _, F28, b28, PySem.W.mg_of X G a28⟩, ⟨_, _, F29, b29, PySem.W.mg_of X G a29⟩, ⟨_, _, F30, b30, PySem.W.mg_of X G a30⟩, ⟨_, _, F31, b31, PySem.W.mg_of X G a31⟩, ⟨_, _, F32, b32, PySem.W.mg_of X G a32⟩, ⟨_, _, F33, b33, PySem.W.mg_of X G a33⟩, ⟨_, _, F34, b34, PySem.W.mg_of X G a34⟩, ⟨_, _, F35, b35, PySem.W.mg_of X G a35⟩, ⟨_, _, F36, b36, PySem.W.mg_of X G a36⟩, ⟨_, _, F37, b37, PySem.W.mg_of X G a37⟩, ⟨_, _, F38, b38, PySem.W.mg_of X G a38⟩, ⟨_, _, F39, b39, PySem.W.mg_of X G a39⟩, ⟨_, _, F40, b40, PySem.W.mg_of X G a40⟩, ⟨_, _, F41, b41, PySem.W.mg_of X G a41⟩, ⟨_, _, F42, b42, PySem.W.mg_of X G a42⟩, ⟨_, _, F43, b43, PySem.W.mg_of X G a43⟩, ⟨_, _, F44, b44, PySem.W.mg_of X G a44⟩, ⟨_, _, F45, b45, PySem.W.mg_of X G a45⟩, ⟨_, _, F46, b46, PySem.W.mg_of X G a46⟩, ⟨_, _, F47, b47, PySem.W.mg_of X G a47⟩, ⟨_, _, F48, b48, PySem.W.mg_of X G a48⟩, PySem.W.mg_none_of X G z0, PySem.W.mg_none_of X G z1, PySem.W.mg_none_of X G z2, PySem.W.mg_none_of X G z3, PySem.W.mg_none_of X G z4, PySem.W.mg_none_of X G z5, PySem.W.mg_none_of X G z6, PySem.W.mg_none_of X G z7, PySem.W.mg_none_of X G z8, PySem.W.mg_none_of X G z9, PySem.W.mg_none_of X G z10, PySem.W.mg_none_of X G z11, PySem.W.mg_none_of X G z12, PySem.W.mg_none_of X G z13, PySem.W.mg_none_of X G z14, ⟨dC, TD⟩, ⟨_, PySem.W.mg_of X G w0⟩, ⟨_, PySem.W.mg_of X G w1⟩, ⟨_, PySem.W.mg_of X G w2⟩, ⟨_, PySem.W.mg_of X G w3⟩, ⟨_, PySem.W.mg_of X G w4⟩, ⟨_, PySem.W.mg_of X G w5⟩, ⟨_, PySem.W.mg_of X G w6⟩, ⟨_, PySem.W.mg_of X G w7⟩⟩
  exact ⟨PySem.W.fnOf "law" "law" (defArgs st_law) (defBody st_law) (defScope st_law) .none kV49 dc49 pm49 an49 cd49 ct49, fun s v => .of_eq rfl, fun base _ _ => ok_law F49 T hw⟩
end
end My

set_option autoImplicit false
namespace My
open PySem PySem.Spec
open PyProof.Rows hiding St
open L2 DL
theorem in_range_F (v lo hi : Int) : F_in_range [.int v, .int lo, .int hi] = some (.bool (decide (lo ≤ v ∧ v ≤ hi))) := by
  unfold F_in_range b_in_range
  by_cases h : lo ≤ v <;> simp [h]
abbrev ruleD (c s : Int) : D := .tuple [.int c, .int s]
theorem is_rule_F (c s : Int) (h : 1 ≤ c ∧ c ≤ 20 ∧ 1 ≤ s ∧ s ≤ 1000) : F_is_rule [ruleD c s] = some (.bool true) := by
  unfold F_is_rule b_is_rule ruleD
  simp [in_range_F, h.1, h.2.1, h.2.2.1, h.2.2.2]
theorem check_rule_F (c s : Int) (h : 1 ≤ c ∧ c ≤ 20 ∧ 1 ≤ s ∧ s ≤ 1000) : F_check_rule [ruleD c s] = some .none := by
  unfold F_check_rule b_check_rule
  simp [is_rule_F c s h]

theorem take_F (n m : Int) (bs : List D) (hb : Bag n bs) (hn : n ≤ 10 ^ 12) (h0 : 0 < m) (h1 : m < 2 ^ 62) : ∃ r bs', F_law_take bs [.int m] = some (.int r, bs') ∧ 0 ≤ r ∧ r < m ∧ Bag (n + 1) bs' := by
  obtain ⟨a, b, c, rfl, hb0, hb1, hc0, hc1⟩ := hb
  unfold F_law_take b_law_take
  by_cases ha : 0 < a
  · refine ⟨a % m, [.int (a / m), .int b, .int c], ?_, Int.emod_nonneg _ (by omega), Int.emod_lt_of_pos _ h0, a / m, b, c, rfl, hb0, hb1, hc0, by omega⟩
    simp [ha, h0, show m < 18446744073709551616 by omega]
  · have e1 : 0 ≤ (b + 1000003 * (c + 1)) % 2305843009213693951 := Int.emod_nonneg _ (by decide)
    have e2 : (b + 1000003 * (c + 1)) % 2305843009213693951 < 2305843009213693951 := Int.emod_lt_of_pos _ (by decide)
    generalize hx : (b + 1000003 * (c + 1)) % 2305843009213693951 = x at e1 e2
    have e3 : 0 ≤ (x * x + 7919 * (c + 1) ^ 2 + 5) % 2305843009213693951 := Int.emod_nonneg _ (by decide)
    have e4 : (x * x + 7919 * (c + 1) ^ 2 + 5) % 2305843009213693951 < 2305843009213693951 := Int.emod_lt_of_pos _ (by decide)
    generalize hy : (x * x + 7919 * (c + 1) ^ 2 + 5) % 2305843009213693951 = y at e3 e4
    refine ⟨y ^ 3 % 2305843009213693951 / 13 % m, [.int a, .int b, .int (c + 1)], ?_, Int.emod_nonneg _ (by omega), Int.emod_lt_of_pos _ h0, a, b, c + 1, rfl, hb0, hb1, by omega, by omega⟩
    have g1 : (c + 1).natAbs < 18446744073709551616 := by omega
    have g2 : y.natAbs < 18446744073709551616 := by omega
    have g3 : -18446744073709551616 < x ∧ x < 18446744073709551616 := by omega
    simp [ha, h0, hx, hy, g1, g2, g3]

/-! ## the machine -/
def stN (c s p : Int) (n : Nat) (t : Int) : Nat := if c ≤ ((if 0 < n ∧ p + s ≤ t then 0 else n : Nat) : Int) + 1 then 0 else (if 0 < n ∧ p + s ≤ t then 0 else n) + 1
def stD (c s p : Int) (n : Nat) (t : Int) : List (Int × Bool) := (if 0 < n ∧ p + s ≤ t then [(p + s, false)] else []) ++ (if c ≤ ((if 0 < n ∧ p + s ≤ t then 0 else n : Nat) : Int) + 1 then [(t, true)] else [])
def rowsM (c s : Int) : Int → Nat → List Int → List Nat
  | _, _, [] => []
  | p, n, t :: ts => stN c s p n t :: rowsM c s t (stN c s p n t) ts
def doneM (c s : Int) : Int → Nat → List Int → List (Int × Bool)
  | p, n, [] => if 0 < n then [(p + s, false)] else []
  | p, n, t :: ts => stD c s p n t ++ doneM c s t (stN c s p n t) ts
def doneL (c s : Int) : Int → Nat → List Int → List (Int × Bool)
  | _, _, [] => []
  | p, n, t :: ts => stD c s p n t ++ doneL c s t (stN c s p n t) ts
def endN (c s : Int) : Int → Nat → List Int → Nat
  | _, n, [] => n
  | p, n, t :: ts => endN c s t (stN c s p n t) ts
def endP : Int → List Int → Int
  | p, [] => p
  | _, t :: ts => endP t ts
theorem doneM_eq (c s : Int) : ∀ (ts : List Int) (p : Int) (n : Nat), doneM c s p n ts = doneL c s p n ts ++ (if 0 < endN c s p n ts then [(endP p ts + s, false)] else [])
  | [], p, n => rfl
  | t :: ts, p, n => by
    show stD c s p n t ++ doneM c s t (stN c s p n t) ts = (stD c s p n t ++ doneL c s t (stN c s p n t) ts) ++ _
    rw [doneM_eq c s ts, List.append_assoc]
    rfl
def dnD : Int × Bool → D
  | (t, b) => .tuple [.int t, .str (if b then "count" else "idle")]
def wl (i n : Nat) : List Int := (List.range n).map fun k => ((i - n + k : Nat) : Int)
def rowsD (i : Nat) : List Nat → List D
  | [] => []
  | n :: ns => .list (intsD (wl (i + 1) n)) :: rowsD (i + 1) ns
theorem stD_len (c s p : Int) (n : Nat) (t : Int) : (stD c s p n t).length ≤ 2 := by
  unfold stD
  rw [List.length_append]
  split <;> split <;> simp
theorem doneL_len (c s : Int) : ∀ (ts : List Int) (p : Int) (n : Nat), (doneL c s p n ts).length ≤ 2 * ts.length
  | [], p, n => by simp [doneL]
  | t :: ts, p, n => by
    have h1 := stD_len c s p n t
    have h2 := doneL_len c s ts t (stN c s p n t)
    simp only [doneL, List.length_append, List.length_cons]
    omega
theorem rowsM_len (c s : Int) : ∀ (ts : List Int) (p : Int) (n : Nat), (rowsM c s p n ts).length = ts.length
  | [], p, n => rfl
  | t :: ts, p, n => by simp [rowsM, rowsM_len c s ts]
theorem stN_le (c s p : Int) (n : Nat) (t : Int) : stN c s p n t ≤ n + 1 := by
  unfold stN
  split <;> split <;> omega
theorem wl_zero (i : Nat) : wl i 0 = [] := rfl
theorem wl_len (i n : Nat) : (wl i n).length = n := by simp [wl]
theorem wl_snoc (i n : Nat) (h : n ≤ i) : wl i n ++ [(i : Int)] = wl (i + 1) (n + 1) := by
  unfold wl
  rw [List.range_succ, List.map_append]
  congr 1
  · apply List.map_congr_left
    intro k _
    congr 2
    omega
  · simp only [List.map_cons, List.map_nil]
    congr 2
    omega
theorem wl_last (i n : Nat) (h : n ≤ i) (hn : 0 < n) : (intsD (wl i n)).getLast? = some (.int ((i - 1 : Nat) : Int)) := by
  obtain ⟨m, rfl⟩ : ∃ m, n = m + 1 := ⟨n - 1, by omega⟩
  obtain ⟨j, rfl⟩ : ∃ j, i = j + 1 := ⟨i - 1, by omega⟩
  rw [← wl_snoc j m (by omega), intsD_app]
  simp
theorem wl_nil (i n : Nat) : PyData.eqvAll (intsD (wl i n)) [] = decide (n = 0) := by
  rw [eqvAll_nil_iff]
  cases n with
  | zero => rfl
  | succ n =>
    have := wl_len i (n + 1)
    cases h : wl i (n + 1) with
    | nil => rw [h] at this; cases this
    | cons a b => simp
theorem log_prev (pre ts : List Int) (h : pre ≠ []) : (intsD (pre ++ ts))[pre.length - 1]? = some (.int (endP 0 pre)) := by
  have : ∀ (pre : List Int) (p : Int), pre ≠ [] → (pre ++ ts)[pre.length - 1]? = some (endP p pre) := by
    intro pre
    induction pre with
    | nil => intro p h; exact absurd rfl h
    | cons a pre ih =>
      intro p _
      cases pre with
      | nil => simp [endP]
      | cons b pre =>
        have := ih a (by simp)
        simpa [endP] using this
  rw [intsD_get, this pre 0 h]
  rfl
theorem endP_snoc (p t : Int) : ∀ pre : List Int, endP p (pre ++ [t]) = t
  | [] => rfl
  | a :: pre => by
    show endP a (pre ++ [t]) = t
    exact endP_snoc a t pre
theorem endN_le (c s : Int) : ∀ (ts : List Int) (p : Int) (n : Nat), endN c s p n ts ≤ n + ts.length
  | [], p, n => Nat.le_refl _
  | t :: ts, p, n => by
    have h1 := endN_le c s ts t (stN c s p n t)
    have h2 := stN_le c s p n t
    simp only [endN, List.length_cons]
    omega

def Srt (ts : List Int) : Prop := ts.Pairwise (· ≤ ·)
def InR (ts : List Int) : Prop := ∀ t ∈ ts, 0 ≤ t ∧ t ≤ 1000000
theorem srt_tail {t : Int} {ts : List Int} (h : Srt (t :: ts)) : Srt ts := (List.pairwise_cons.mp h).2

theorem srt_pairs : ∀ {ts : List Int}, Srt ts → ∀ d ∈ zipL (intsD ts) (intsD ts.tail), ∃ x y : Int, d = .tuple [.int x, .int y] ∧ x ≤ y
  | [], _, d, hd => by simp [zipL] at hd
  | [t], _, d, hd => by simp [zipL] at hd
  | t :: u :: ts, h, d, hd => by
    have ht := List.pairwise_cons.mp h
    simp only [intsD_cons, List.tail_cons, zipL, List.mem_cons] at hd
    rcases hd with rfl | hd
    · exact ⟨t, u, rfl, ht.1 u (by simp)⟩
    · exact srt_pairs ht.2 d (by simpa using hd)
theorem map_true : ∀ {ds : List D}, ((ds.map fun _ => PyData.bool true).length = ds.length) ∧ boolsOf (ds.map fun _ => .bool true) = some (ds.map fun _ => true) ∧ (ds.map fun _ => true).all id = true
  | [] => ⟨rfl, rfl, rfl⟩
  | d :: ds => by
    obtain ⟨h1, h2, h3⟩ := map_true (ds := ds)
    exact ⟨by simp, by simp [h2], by simp⟩
theorem is_log_F (log : List Int) (hl : log.length ≤ 60) (hr : InR log) (hs : Srt log) : F_is_log [.tuple (intsD log)] = some (.bool true) := by
  have c1 : c_is_log_1 [.dat (.tuple (intsD log)), .nil, .nil] = some (.list ((intsD log).map fun _ => .bool true)) := by
    unfold c_is_log_1
    have := compL_map (b := bName 1) (g := nD (consA (varD .str 1) (consA (kD (.int 0)) (consA (kD (.int 1000000)) nilA))) F_in_range) (ρ := [.dat (.tuple (intsD log)), .nil, .nil]) (fun _ => .bool true) (ds := intsD log) fun d hd => by
      obtain ⟨t, ht, rfl⟩ := List.mem_map.mp hd
      obtain ⟨h1, h2⟩ := hr t ht
      exact ⟨[.dat (.tuple (intsD log)), .dat (.int t), .nil], rfl, by simp [in_range_F, h1, h2]⟩
    have hl2 : log.length ≤ 100000 := by omega
    simp only [lcD, itD, varD, List.getElem?_cons_zero, Option.bind, seqD, intsD_len, if_pos hl2, wipeR, List.set_cons_succ, List.set_cons_zero] at this ⊢
    rw [this]
  have c2 : c_is_log_2 [.dat (.tuple (intsD log)), .nil, .nil] = some (.list ((zipL (intsD log) (intsD log.tail)).map fun _ => .bool true)) := by
    unfold c_is_log_2
    have := compL_map (b := bTup 2 (bCons (bName 1) (bCons (bName 2) bNil))) (g := b2D (varD .str 1) (varD .str 2) leD) (ρ := [.dat (.tuple (intsD log)), .nil, .nil]) (fun _ => .bool true) (ds := zipL (intsD log) (intsD log.tail)) fun d hd => by
      obtain ⟨x, y, rfl, h⟩ := srt_pairs hs d hd
      exact ⟨[.dat (.tuple (intsD log)), .dat (.int x), .dat (.int y)], rfl, by simp [h]⟩
    have hl2 : (zipL (intsD log) (intsD log.tail)).length ≤ 100000 := by rw [zipL_len, intsD_len]; omega
    simp only [lcD, zipI, slD, noO, soO, kD, asInt, slcD, cutD_one, intsD_tail, zip2, varD, List.getElem?_cons_zero, Option.bind, if_pos hl2, wipeR, List.set_cons_succ, List.set_cons_zero] at this ⊢
    rw [this]
  obtain ⟨_, b1, a1⟩ := map_true (ds := intsD log)
  obtain ⟨_, b2, a2⟩ := map_true (ds := zipL (intsD log) (intsD log.tail))
  have hl3 : ¬ (60 : Int) < (log.length : Int) := by omega
  unfold F_is_log b_is_log
  simp [c1, c2, b1, b2, hl3]
theorem check_log_F (log : List Int) (hl : log.length ≤ 60) (hr : InR log) (hs : Srt log) : F_check_log [.tuple (intsD log)] = some .none := by
  unfold F_check_log b_check_log
  simp [is_log_F log hl hr hs]

def intsN (ns : List Nat) : List D := ns.map fun (n : Nat) => PyData.int (n : Int)
theorem stN_lt (c s p : Int) (n : Nat) (t : Int) (hc : 1 ≤ c) : (stN c s p n t : Int) < c := by
  unfold stN
  generalize (if 0 < n ∧ p + s ≤ t then 0 else n) = m
  split <;> omega

theorem played_step (c s : Int) (log pre ts : List Int) (t : Int) (n : Nat) (rows done : List D) (hlog : log = pre ++ t :: ts) (hn : n ≤ pre.length) (hc : (n : Int) < c) (hr : rows.length + 1 ≤ 100000) (hd : done.length + 2 ≤ 100000) :
    l_played_1 [.dat (ruleD c s), .dat (.tuple (intsD log)), .dat (.int c), .dat (.int s), .dat (.int n), .own rows, .own done, .dat (.int pre.length), .dat (.int t)] =
      some (.nx [.dat (ruleD c s), .dat (.tuple (intsD log)), .dat (.int c), .dat (.int s), .dat (.int (stN c s (endP 0 pre) n t)), .own (rows ++ [.int (stN c s (endP 0 pre) n t)]), .own (done ++ (stD c s (endP 0 pre) n t).map dnD), .dat (.int pre.length), .dat (.int t)]) := by
  unfold l_played_1
  have g1 : done.length < 100000 := by omega
  have g2 : rows.length < 100000 := by omega
  have g3 : done.length + 1 < 100000 := by omega
  by_cases h0 : 0 < n
  · have hp : pre ≠ [] := by intro z; rw [z] at hn; simp at hn; omega
    have hpl : 0 < pre.length := List.length_pos_iff.mpr hp
    have hpre : atI (intsD log) ((pre.length : Int) - 1) = some (.int (endP 0 pre)) := by
      rw [show (pre.length : Int) - 1 = ((pre.length - 1 : Nat) : Int) by omega, atI_natCast, hlog]
      exact log_prev pre (t :: ts) hp
    by_cases h1 : endP 0 pre + s ≤ t
    · have h1' : s ≤ t - endP 0 pre := by omega
      by_cases h2 : c = 1
      · subst h2; omega
      · have h2' : ¬ c ≤ 1 := by omega
        have h2'' : ¬ (1 : Int) = c := fun z => h2 z.symm
        simp [stN, stD, h0, hpre, h1, h1', h2', h2'', dnD, g1, g2, g3]
    · have h1' : ¬ s ≤ t - endP 0 pre := by omega
      by_cases h2 : (n : Int) + 1 = c
      · have h2' : c ≤ (n : Int) + 1 := by omega
        simp [stN, stD, h0, hpre, h1, h1', h2, h2', dnD, g1, g2, g3]
      · have h2' : ¬ c ≤ (n : Int) + 1 := by omega
        simp [stN, stD, h0, hpre, h1, h1', h2, h2', dnD, g1, g2, g3]
  · have h0' : n = 0 := by omega
    subst h0'
    by_cases h2 : c = 1
    · subst h2
      simp [stN, stD, dnD, g1, g2, g3]
    · have h2' : ¬ c ≤ 1 := by omega
      have h2'' : ¬ (1 : Int) = c := fun z => h2 z.symm
      simp [stN, stD, h2', h2'', dnD, g1, g2, g3]
theorem played_loop (c s : Int) (hc : 1 ≤ c) (log : List Int) : ∀ (ts pre : List Int) (n : Nat) (rows done : List D) (x y : Sl), log = pre ++ ts → n ≤ pre.length → (n : Int) < c → rows.length + ts.length ≤ 100000 → done.length + 2 * ts.length ≤ 100000 →
    ∃ x' y', forL (bTup 2 (bCons (bName 7) (bCons (bName 8) bNil))) l_played_1 (enumL pre.length (intsD ts)) [.dat (ruleD c s), .dat (.tuple (intsD log)), .dat (.int c), .dat (.int s), .dat (.int n), .own rows, .own done, x, y] =
      some (.nx [.dat (ruleD c s), .dat (.tuple (intsD log)), .dat (.int c), .dat (.int s), .dat (.int (endN c s (endP 0 pre) n ts)), .own (rows ++ intsN (rowsM c s (endP 0 pre) n ts)), .own (done ++ (doneL c s (endP 0 pre) n ts).map dnD), x', y'])
  | [], pre, n, rows, done, x, y, hl, hn, hnc, hr, hd => by
    refine ⟨x, y, ?_⟩
    simp [enumL, rowsM, doneL, endN, intsN]
  | t :: ts, pre, n, rows, done, x, y, hl, hn, hnc, hr, hd => by
    simp only [List.length_cons] at hr hd
    have st := played_step c s log pre ts t n rows done hl hn hnc (by omega) (by omega)
    have hsd := stD_len c s (endP 0 pre) n t
    have hsn := stN_le c s (endP 0 pre) n t
    obtain ⟨x', y', ih⟩ := played_loop c s hc log ts (pre ++ [t]) (stN c s (endP 0 pre) n t) (rows ++ [.int (stN c s (endP 0 pre) n t)]) (done ++ (stD c s (endP 0 pre) n t).map dnD) (.dat (.int pre.length)) (.dat (.int t))
      (by rw [hl]; simp) (by rw [List.length_append]; simp; omega) (stN_lt c s _ n t hc) (by rw [List.length_append]; simp; omega) (by rw [List.length_append, List.length_map]; omega)
    rw [endP_snoc, List.length_append, List.length_singleton] at ih
    refine ⟨x', y', ?_⟩
    rw [intsD_cons, enumL]
    refine (forL_cons (ρ1 := [.dat (ruleD c s), .dat (.tuple (intsD log)), .dat (.int c), .dat (.int s), .dat (.int n), .own rows, .own done, .dat (.int pre.length), .dat (.int t)]) rfl st).trans ?_
    refine ih.trans ?_
    simp [rowsM, doneL, endN, intsN, List.append_assoc]
theorem played_F (c s : Int) (hc : 1 ≤ c) (log : List Int) (hlog : log.length ≤ 40000) : F_played [ruleD c s, .tuple (intsD log)] = some (.tuple [.list (intsN (rowsM c s 0 0 log)), .list ((doneM c s 0 0 log).map dnD)]) := by
  obtain ⟨x', y', e⟩ := played_loop c s hc log log [] 0 [] [] .nil .nil rfl (Nat.zero_le _) (by simp; omega) (by simp; omega) (by simp; omega)
  simp only [List.length_nil, List.nil_append, endP] at e
  have hL := endN_le c s log 0 0
  have hd := doneL_len c s log 0 0
  have g1 : (doneL c s 0 0 log).length < 100000 := by omega
  unfold F_played b_played
  have cz : ((0 : Nat) : Int) = 0 := rfl
  rw [cz] at e
  simp [e, doneM_eq]
  by_cases h : 0 < endN c s 0 0 log
  · have hp : log ≠ [] := by intro z; subst z; simp [endN] at h
    have hpre : (intsD log).getLast? = some (.int (endP 0 log)) := by
      have := log_prev log [] hp
      rw [List.append_nil] at this
      rw [List.getLast?_eq_getElem?, intsD_len]
      exact this
    simp [h, hpre, g1, dnD]
  · simp [h]

theorem check_time_F (t : Int) (h : 0 ≤ t ∧ t ≤ 1000000000) : F_check_time [.int t] = some .none := by
  unfold F_check_time b_check_time
  simp [in_range_F, h.1, h.2]

/-! ## runs of edits -/
def runM (s : Int) : Int → Nat → List Int → List Nat
  | _, _, [] => []
  | p, r, t :: ts => (if 0 < r ∧ t - p < s then r + 1 else 1) :: runM s t (if 0 < r ∧ t - p < s then r + 1 else 1) ts
def natsI (ns : List Nat) : List Int := ns.map fun (n : Nat) => (n : Int)
def LL (s : Int) (log : List Int) : Int := maxL 0 (natsI (runM s 0 0 log))
def RR (c s : Int) (log : List Int) : Int := maxL 0 (natsI (rowsM c s 0 0 log))
theorem intsN_eq (ns : List Nat) : intsN ns = intsD (natsI ns) := by simp [intsN, intsD, natsI]
theorem rows_runs (k : Nat) (hk : 1 ≤ k) (s : Int) : ∀ (ts : List Int) (p : Int) (r : Nat), rowsM (k : Int) s p (r % k) ts = (runM s p r ts).map (· % k)
  | [], p, r => rfl
  | t :: ts, p, r => by
    have st : stN (k : Int) s p (r % k) t = (if 0 < r ∧ t - p < s then r + 1 else 1) % k := by
      unfold stN
      have hm : r % k < k := Nat.mod_lt _ hk
      by_cases h0 : 0 < r
      · by_cases h1 : t - p < s
        · have h2 : ¬ (0 < r % k ∧ p + s ≤ t) := fun z => by omega
          rw [if_neg h2, if_pos (show 0 < r ∧ t - p < s from ⟨h0, h1⟩), Nat.add_mod]
          by_cases h3 : (k : Int) ≤ ((r % k : Nat) : Int) + 1
          · rw [if_pos h3]
            have h4 : r % k + 1 = k := by omega
            by_cases h5 : k = 1
            · subst h5; simp [Nat.mod_one]
            · rw [Nat.mod_eq_of_lt (show 1 < k by omega), h4, Nat.mod_self]
          · rw [if_neg h3]
            have h5 : 1 < k := by omega
            rw [Nat.mod_eq_of_lt h5, Nat.mod_eq_of_lt (show r % k + 1 < k by omega)]
        · rw [if_neg (show ¬ (0 < r ∧ t - p < s) from fun z => h1 z.2)]
          have h2 : (if 0 < r % k ∧ p + s ≤ t then 0 else r % k) = 0 := by
            by_cases h3 : 0 < r % k
            · rw [if_pos ⟨h3, by omega⟩]
            · rw [if_neg fun z => h3 z.1]; omega
          rw [h2]
          by_cases h5 : k = 1
          · subst h5; simp
          · rw [if_neg (by omega), Nat.mod_eq_of_lt (show 1 < k by omega)]
      · have hr : r = 0 := by omega
        subst hr
        rw [Nat.zero_mod]
        by_cases h5 : k = 1
        · subst h5; simp
        · simp [Nat.mod_eq_of_lt (show 1 < k by omega)]
          omega
    rw [rowsM, st, runM, List.map_cons, rows_runs k hk s ts]
theorem runs_below (s : Int) : ∀ (ts : List Int) (p : Int) (r v j : Nat), v ∈ runM s p r ts → 1 ≤ j → j ≤ v → j ≤ r ∨ j ∈ runM s p r ts
  | [], p, r, v, j, h, _, _ => by cases h
  | t :: ts, p, r, v, j, h, h1, h2 => by
    unfold runM at h ⊢
    generalize hr : (if 0 < r ∧ t - p < s then r + 1 else 1) = r' at h ⊢
    have hr' : ∀ i, 1 ≤ i → i ≤ r' → i ≤ r ∨ i = r' := fun i hi hi' => by
      rw [← hr] at hi' ⊢
      split at hi' <;> rename_i hc
      · rw [if_pos hc]; omega
      · rw [if_neg hc]; omega
    rcases List.mem_cons.mp h with rfl | h
    · rcases hr' j h1 h2 with z | rfl
      · exact .inl z
      · exact .inr (by simp)
    · rcases runs_below s ts t r' v j h h1 h2 with z | z
      · rcases hr' j h1 z with y | rfl
        · exact .inl y
        · exact .inr (by simp)
      · exact .inr (by simp [z])
theorem natsI_mem {ns : List Nat} {i : Int} (h : i ∈ natsI ns) : ∃ n ∈ ns, i = (n : Int) := by
  obtain ⟨n, h1, rfl⟩ := List.mem_map.mp h
  exact ⟨n, h1, rfl⟩
theorem mem_natsI {ns : List Nat} {n : Nat} (h : n ∈ ns) : (n : Int) ∈ natsI ns := List.mem_map.mpr ⟨n, h, rfl⟩
theorem LL_nonneg (s : Int) (log : List Int) : 0 ≤ LL s log := (maxL_ge _ _).1
theorem RR_eq (c s : Int) (hc : 1 ≤ c) (log : List Int) : RR c s log = if LL s log < c - 1 then LL s log else c - 1 := by
  obtain ⟨k, rfl⟩ := Int.eq_ofNat_of_zero_le (show 0 ≤ c by omega)
  have hk : 1 ≤ k := by omega
  have e := rows_runs k hk s log 0 0
  rw [Nat.zero_mod] at e
  have hL := maxL_ge (natsI (runM s 0 0 log)) 0
  have hL2 := maxL_mem (natsI (runM s 0 0 log)) 0
  have hR := maxL_ge (natsI (rowsM k s 0 0 log)) 0
  have hR2 := maxL_mem (natsI (rowsM k s 0 0 log)) 0
  have up : RR k s log ≤ LL s log ∧ RR k s log ≤ (k : Int) - 1 := by
    rcases hR2 with z | z
    · exact ⟨by unfold RR; rw [z]; exact hL.1, by unfold RR; rw [z]; omega⟩
    · obtain ⟨n, h1, h2⟩ := natsI_mem z
      rw [e] at h1
      obtain ⟨v, h3, h4⟩ := List.mem_map.mp h1
      have h5 := hL.2 _ (mem_natsI h3)
      have h6 : v % k ≤ v := Nat.mod_le _ _
      have h7 : v % k < k := Nat.mod_lt _ hk
      have h8 : RR k s log = ((v % k : Nat) : Int) := by unfold RR; rw [h2, ← h4]
      have h9 : (v : Int) ≤ LL s log := h5
      exact ⟨by omega, by omega⟩
  have dn : ∀ j : Nat, (j : Int) ≤ LL s log → (j : Int) ≤ (k : Int) - 1 → (j : Int) ≤ RR k s log := fun j h1 h2 => by
    by_cases hj : j = 0
    · subst hj; exact hR.1
    · rcases hL2 with z | z
      · have : LL s log = 0 := z
        omega
      · obtain ⟨v, h3, h4⟩ := natsI_mem z
        have h5 : LL s log = (v : Int) := h4
        rcases runs_below s log 0 0 v j h3 (by omega) (by omega) with y | y
        · omega
        · refine hR.2 _ (mem_natsI ?_)
          rw [e]
          exact List.mem_map.mpr ⟨j, y, Nat.mod_eq_of_lt (by omega)⟩
  have h0 := LL_nonneg s log
  by_cases h : LL s log < (k : Int) - 1
  · rw [if_pos h]
    obtain ⟨j, hj⟩ := Int.eq_ofNat_of_zero_le h0
    have := dn j (by omega) (by omega)
    omega
  · rw [if_neg h]
    obtain ⟨j, hj⟩ := Int.eq_ofNat_of_zero_le (show 0 ≤ (k : Int) - 1 by omega)
    have := dn j (by omega) (by omega)
    omega
theorem runs_mono {s u : Int} (h : s ≤ u) : ∀ (ts : List Int) (p m m' : Int) (r r' : Nat), m ≤ m' → r ≤ r' → maxL m (natsI (runM s p r ts)) ≤ maxL m' (natsI (runM u p r' ts))
  | [], p, m, m', r, r', hm, hr => hm
  | t :: ts, p, m, m', r, r', hm, hr => by
    unfold runM natsI maxL
    simp only [List.map_cons, maxL]
    have h1 : (if 0 < r ∧ t - p < s then r + 1 else 1) ≤ (if 0 < r' ∧ t - p < u then r' + 1 else 1) := by
      by_cases a : 0 < r ∧ t - p < s
      · rw [if_pos a, if_pos ⟨by omega, by omega⟩]; omega
      · rw [if_neg a]; split <;> omega
    generalize (if 0 < r ∧ t - p < s then r + 1 else 1) = q at h1
    generalize (if 0 < r' ∧ t - p < u then r' + 1 else 1) = q' at h1
    refine runs_mono h ts t _ _ q q' ?_ h1
    split <;> split <;> omega
theorem LL_mono {s u : Int} (h : s ≤ u) (log : List Int) : LL s log ≤ LL u log := runs_mono h log 0 0 0 0 0 (Int.le_refl _) (Nat.le_refl _)
def gapsM : Int → List Int → List Int
  | _, [] => []
  | p, t :: ts => (t - p) :: gapsM t ts
theorem runs_gap (s : Int) : ∀ (ts : List Int) (p : Int) (r : Nat), (∀ g ∈ gapsM p ts, g ≠ s) → runM s p r ts = runM (s + 1) p r ts
  | [], p, r, h => rfl
  | t :: ts, p, r, h => by
    have h0 : t - p ≠ s := h _ (by simp [gapsM])
    unfold runM
    have : (0 < r ∧ t - p < s) ↔ (0 < r ∧ t - p < s + 1) := ⟨fun z => ⟨z.1, by omega⟩, fun z => ⟨z.1, by omega⟩⟩
    simp only [this]
    rw [runs_gap s ts t _ fun g hg => h g (by simp [gapsM, hg])]
def gapsL : List Int → List Int
  | [] => []
  | t :: ts => gapsM t ts
theorem LL_gap (s : Int) (log : List Int) (h : ∀ g ∈ gapsL log, g ≠ s) : LL s log = LL (s + 1) log := by
  unfold LL
  cases log with
  | nil => rfl
  | cons t ts =>
    have := runs_gap s ts t 1 h
    unfold runM
    simp [this]

/-! ## the edits not saved at a time -/
def partM (T : Int) (log : List Int) : List Int := log.filter fun t => decide (t ≤ T)
def opN (c s T : Int) (log : List Int) : Nat := if partM T log = [] then 0 else if endP 0 (partM T log) + s ≤ T then 0 else endN c s 0 0 (partM T log)
def leI (T : Int) : D → Bool
  | .int t => decide (t ≤ T)
  | _ => false
theorem filt_I (T : Int) : ∀ log : List Int, (intsD log).filter (leI T) = intsD (partM T log)
  | [] => rfl
  | t :: ts => by
    have := filt_I T ts
    by_cases h : t ≤ T
    · simp [leI, partM, h] at this ⊢
      exact this
    · simp [leI, partM, h] at this ⊢
      exact this
theorem comp_part (T : Int) (log : List Int) (x0 x3 x5 : Sl) : compL (bName 4) (tstD (b2D (varD .bas 4) (varD .bas 2) leD)) (varD .str 4) [x0, .dat (.tuple (intsD log)), .dat (.int T), x3, .nil, x5] (intsD log) = some (intsD (partM T log)) := by
  rw [← filt_I, ← List.map_id ((intsD log).filter (leI T))]
  refine compL_fm (leI T) id fun d hd => ?_
  obtain ⟨t, _, rfl⟩ := List.mem_map.mp hd
  exact ⟨[x0, .dat (.tuple (intsD log)), .dat (.int T), x3, .dat (.int t), x5], rfl, by simp [leI], fun _ => rfl⟩
theorem rows_last (c s : Int) : ∀ (ts : List Int) (p : Int) (n : Nat), ts ≠ [] → (rowsM c s p n ts).getLast? = some (endN c s p n ts)
  | [], p, n, h => absurd rfl h
  | [t], p, n, h => rfl
  | t :: u :: ts, p, n, h => by
    have ih := rows_last c s (u :: ts) t (stN c s p n t) (by simp)
    rw [rowsM, endN, ← ih]
    rw [rowsM]
    exact List.getLast?_cons_cons
theorem rowsD_last (c s : Int) : ∀ (ts : List Int) (i : Nat) (p : Int) (n : Nat), ts ≠ [] → (rowsD i (rowsM c s p n ts)).getLast? = some (.list (intsD (wl (i + ts.length) (endN c s p n ts))))
  | [], i, p, n, h => absurd rfl h
  | [t], i, p, n, h => rfl
  | t :: u :: ts, i, p, n, h => by
    have ih := rowsD_last c s (u :: ts) (i + 1) t (stN c s p n t) (by simp)
    rw [rowsM, rowsD, endN]
    rw [show i + (t :: u :: ts).length = i + 1 + (u :: ts).length by simp; omega, ← ih]
    rw [rowsM, rowsD]
    exact List.getLast?_cons_cons
theorem part_len (T : Int) (log : List Int) : (partM T log).length ≤ log.length := List.length_filter_le _ _
theorem int_last (ts : List Int) (h : ts ≠ []) : (intsD ts).getLast? = some (.int (endP 0 ts)) := by
  have := log_prev ts [] h
  rw [List.append_nil] at this
  rw [List.getLast?_eq_getElem?, intsD_len]
  exact this

theorem unsaved_at_F (c s T : Int) (hc : 1 ≤ c) (log : List Int) (hl : log.length ≤ 40000) : F_unsaved_at [ruleD c s, .tuple (intsD log), .int T] = some (.int (opN c s T log)) := by
  have hp := part_len T log
  have e3 := played_F c s hc (partM T log) (by omega)
  have c1 : c_unsaved_at_1 [.dat (ruleD c s), .dat (.tuple (intsD log)), .dat (.int T), .nil, .nil, .nil] = some (.list (intsD (partM T log))) := by
    unfold c_unsaved_at_1
    have := comp_part T log (.dat (ruleD c s)) .nil .nil
    have hl2 : log.length ≤ 100000 := by omega
    simp [hl2, wipeR] at this ⊢
    rw [this]
    rfl
  unfold F_unsaved_at b_unsaved_at opN
  rw [intsN_eq] at e3
  simp only [ruleD] at e3 c1
  by_cases h : partM T log = []
  · rw [h] at e3 c1
    simp only [intsD_nil] at e3 c1
    simp [c1, e3, h, rowsM, natsI]
  · have hrl : (intsD (natsI (rowsM c s 0 0 (partM T log)))).getLast? = some (.int (endN c s 0 0 (partM T log))) := by
      rw [intsD, natsI, List.getLast?_map, List.getLast?_map, rows_last c s _ 0 0 h]; rfl
    have hne : PyData.eqvAll (intsD (natsI (rowsM c s 0 0 (partM T log)))) [] = false := by
      rw [eqvAll_nil_iff]
      cases hh : partM T log with
      | nil => exact absurd hh h
      | cons t ts => simp [rowsM, natsI]
    have hil := int_last _ h
    by_cases k : endP 0 (partM T log) + s ≤ T
    · have k' : s ≤ T - endP 0 (partM T log) := by omega
      simp [c1, e3, h, hne, hil, k, k']
    · have k' : ¬ s ≤ T - endP 0 (partM T log) := by omega
      simp [c1, e3, h, hne, hil, k, k', hrl]
theorem unsaved_F (c s T : Int) (hr : 1 ≤ c ∧ c ≤ 20 ∧ 1 ≤ s ∧ s ≤ 1000) (log : List Int) (hl : log.length ≤ 60) (h1 : InR log) (h2 : Srt log) (hT : 0 ≤ T ∧ T ≤ 1000000000) : F_unsaved [ruleD c s, .tuple (intsD log), .int T] = some (.int (opN c s T log)) := by
  have e1 := check_rule_F c s hr
  have e2 := check_log_F log hl h1 h2
  have e4 := check_time_F T hT
  have e5 := unsaved_at_F c s T hr.1 log (by omega)
  unfold F_unsaved b_unsaved
  simp only [ruleD] at e1 e5
  simp [e1, e2, e4, e5]

/-! ## lists of saves: shapes, equality -/
theorem strOk_words : PyData.strOk "count" = true ∧ PyData.strOk "idle" = true := by decide +kernel
theorem shp_dn (x : Int × Bool) : Shp 1 (dnD x) := by
  obtain ⟨t, b⟩ := x
  refine shp_tup fun d hd => ?_
  rcases List.mem_cons.mp hd with rfl | hd
  · exact shp_int t
  · have : d = .str (if b then "count" else "idle") := by simpa using hd
    subst this
    refine shp_str ?_
    cases b with
    | true => exact strOk_words.1
    | false => exact strOk_words.2
theorem shp_dns (xs : List (Int × Bool)) : ∀ d ∈ xs.map dnD, Shp 1 d := fun d hd => by
  obtain ⟨x, _, rfl⟩ := List.mem_map.mp hd
  exact shp_dn x
@[simp] theorem shaped_dn (xs : List (Int × Bool)) : SeqAt.shaped (.list (xs.map dnD)) = true := (shp_list (shp_dns xs)).ok (by decide)
theorem eqv_dn (x y : Int × Bool) : PyData.eqv (dnD x) (dnD y) = decide (x = y) := by
  obtain ⟨t, b⟩ := x
  obtain ⟨u, c⟩ := y
  unfold dnD
  cases b <;> cases c <;> by_cases h : t = u <;> simp [h] <;> decide +kernel
@[simp] theorem eqvAll_dn : ∀ (xs ys : List (Int × Bool)), PyData.eqvAll (xs.map dnD) (ys.map dnD) = decide (xs = ys)
  | [], [] => by simp
  | [], y :: ys => by simp
  | x :: xs, [] => by simp
  | x :: xs, y :: ys => by
    rw [List.map_cons, List.map_cons, eqvAll_cons, eqv_dn, eqvAll_dn xs ys]
    by_cases h : x = y <;> simp [h]

theorem saves_F (c s : Int) (hr : 1 ≤ c ∧ c ≤ 20 ∧ 1 ≤ s ∧ s ≤ 1000) (log : List Int) (hl : log.length ≤ 60) (h1 : InR log) (h2 : Srt log) : F_saves [ruleD c s, .tuple (intsD log)] = some (.list ((doneM c s 0 0 log).map dnD)) := by
  have e1 := check_rule_F c s hr
  have e2 := check_log_F log hl h1 h2
  have e3 := played_F c s hr.1 log (by omega)
  unfold F_saves b_saves
  simp only [ruleD] at e1 e3
  simp [e1, e2, e3]

theorem most_unsaved_F (c s : Int) (hr : 1 ≤ c ∧ c ≤ 20 ∧ 1 ≤ s ∧ s ≤ 1000) (log : List Int) (hl : log.length ≤ 60) (h1 : InR log) (h2 : Srt log) : F_most_unsaved [ruleD c s, .tuple (intsD log)] = some (.int (RR c s log)) := by
  have e1 := check_rule_F c s hr
  have e2 := check_log_F log hl h1 h2
  have e3 := played_F c s hr.1 log (by omega)
  have hlen : (natsI (rowsM c s 0 0 log)).length + 1 ≤ 100000 := by
    rw [natsI, List.length_map, rowsM_len]; omega
  rw [intsN_eq] at e3
  unfold F_most_unsaved b_most_unsaved RR
  simp [e1, e2, e3]
  generalize natsI (rowsM c s 0 0 log) = ns at hlen ⊢
  have : intsOf (PyData.int 0 :: intsD ns) = some (0 :: ns) := intsOf_intsD (0 :: ns)
  simp [hlen, Nat.add_comm 1]

theorem doneM_len (c s : Int) (ts : List Int) (p : Int) (n : Nat) : (doneM c s p n ts).length ≤ 2 * ts.length + 1 := by
  rw [doneM_eq, List.length_append]
  have := doneL_len c s ts p n
  split <;> simp <;> omega

/-- the saves until a time -/
def cT (c s T p : Int) (n : Nat) (ts : List Int) : Nat := ((doneM c s p n ts).filter fun d => decide (d.1 ≤ T)).length
def leP (T : Int) : D → Bool
  | .tuple [.int t, _] => decide (t ≤ T)
  | _ => false
def fstP : D → D
  | .tuple [t, _] => t
  | _ => .none
theorem filt_dn (T : Int) : ∀ ds : List (Int × Bool), ((ds.map dnD).filter (leP T)) = (ds.filter fun d => decide (d.1 ≤ T)).map dnD
  | [] => rfl
  | (t, b) :: ds => by
    have := filt_dn T ds
    by_cases h : t ≤ T
    · simp [dnD, leP, h] at this ⊢
      exact this
    · simp [dnD, leP, h] at this ⊢
      exact this
theorem comp_until (T : Int) (ds : List (Int × Bool)) (x0 x1 : Sl) : compL (bTup 2 (bCons (bName 3) (bCons (bName 4) bNil))) (tstD (b2D (varD .bas 3) (varD .bas 2) leD)) (varD .str 3) [x0, x1, .dat (.int T), .nil, .nil] (ds.map dnD) = some (((ds.filter fun d => decide (d.1 ≤ T)).map dnD).map fstP) := by
  rw [← filt_dn]
  refine compL_fm (leP T) fstP fun d hd => ?_
  obtain ⟨⟨t, b⟩, _, rfl⟩ := List.mem_map.mp hd
  exact ⟨[x0, x1, .dat (.int T), .dat (.int t), .dat (.str (if b then "count" else "idle"))], rfl, by simp [leP, dnD], fun _ => rfl⟩

theorem saves_until_F (c s T : Int) (hr : 1 ≤ c ∧ c ≤ 20 ∧ 1 ≤ s ∧ s ≤ 1000) (log : List Int) (hl : log.length ≤ 60) (h1 : InR log) (h2 : Srt log) (hT : 0 ≤ T ∧ T ≤ 1000000000) : F_saves_until [ruleD c s, .tuple (intsD log), .int T] = some (.int (cT c s T 0 0 log)) := by
  have e1 := check_rule_F c s hr
  have e2 := check_log_F log hl h1 h2
  have e3 := played_F c s hr.1 log (by omega)
  have e4 := check_time_F T hT
  have hd := doneM_len c s log 0 0
  have c1 : c_saves_until_1 [.dat (ruleD c s), .dat (.tuple (intsD log)), .dat (.int T), .nil, .nil] = some (.list ((((doneM c s 0 0 log).filter fun d => decide (d.1 ≤ T)).map dnD).map fstP)) := by
    unfold c_saves_until_1
    have := comp_until T (doneM c s 0 0 log) (.dat (ruleD c s)) (.dat (.tuple (intsD log)))
    have hl2 : (doneM c s 0 0 log).length ≤ 100000 := by omega
    simp only [ruleD] at e3 this
    simp [e3, hl2, wipeR] at this ⊢
    rw [this]
    rfl
  unfold F_saves_until b_saves_until
  simp only [ruleD] at e1 c1
  simp [e1, e2, e4, c1, cT]

/-! ## the last count of logs of one or two times -/
theorem endN_app (c s : Int) : ∀ (xs ys : List Int) (p : Int) (n : Nat), endN c s p n (xs ++ ys) = endN c s (endP p xs) (endN c s p n xs) ys
  | [], ys, p, n => rfl
  | x :: xs, ys, p, n => endN_app c s xs ys x _
theorem endP_app : ∀ (xs ys : List Int) (p : Int), endP p (xs ++ ys) = endP (endP p xs) ys
  | [], ys, p => rfl
  | x :: xs, ys, p => endP_app xs ys x
theorem endP_rep (t : Int) : ∀ (m : Nat) (p : Int), endP p (List.replicate (m + 1) t) = t
  | 0, p => rfl
  | m + 1, p => by rw [List.replicate_succ, endP, endP_rep t m]
theorem stN_in (k : Nat) (s p t : Int) (n : Nat) (hn : n < k) (h : ¬ (0 < n ∧ p + s ≤ t)) : stN (k : Int) s p n t = (n + 1) % k := by
  unfold stN
  rw [if_neg h]
  by_cases h2 : (k : Int) ≤ (n : Int) + 1
  · rw [if_pos h2, show n + 1 = k by omega, Nat.mod_self]
  · rw [if_neg h2, Nat.mod_eq_of_lt (by omega)]
theorem stN_out (k : Nat) (s p t : Int) (n : Nat) (hk : 1 ≤ k) (h : 0 < n ∧ p + s ≤ t) : stN (k : Int) s p n t = 1 % k := by
  unfold stN
  rw [if_pos h]
  by_cases h2 : (k : Int) ≤ ((0 : Nat) : Int) + 1
  · rw [if_pos h2, show k = 1 by omega]
  · rw [if_neg h2, Nat.mod_eq_of_lt (by omega)]
theorem endN_rep (k : Nat) (s t : Int) (hs : 1 ≤ s) : ∀ (m n : Nat) (p : Int), n < k → ¬ (0 < n ∧ p + s ≤ t) → endN (k : Int) s p n (List.replicate m t) = (n + m) % k
  | 0, n, p, hn, h => by rw [Nat.add_zero, Nat.mod_eq_of_lt hn]; rfl
  | m + 1, n, p, hn, h => by
    rw [List.replicate_succ, endN, stN_in k s p t n hn h, endN_rep k s t hs m _ t (Nat.mod_lt _ (by omega)) (fun z => by omega), Nat.mod_add_mod]
    congr 1
    omega
theorem endN_repP (k : Nat) (s t p : Int) (hs : 1 ≤ s) (m n : Nat) (hk : 1 ≤ k) (h : 0 < n ∧ p + s ≤ t) : endN (k : Int) s p n (List.replicate (m + 1) t) = (m + 1) % k := by
  rw [List.replicate_succ, endN, stN_out k s p t n hk h, endN_rep k s t hs m _ t (Nat.mod_lt _ (by omega)) (fun z => by omega), Nat.mod_add_mod]
  congr 1
  omega
theorem part_all (T : Int) (log : List Int) (h : ∀ t ∈ log, t ≤ T) : partM T log = log := by
  unfold partM
  rw [List.filter_eq_self]
  intro t ht
  exact decide_eq_true (h t ht)
theorem opN_all (c s T : Int) (log : List Int) (h : ∀ t ∈ log, t ≤ T) : opN c s T log = if log = [] then 0 else if endP 0 log + s ≤ T then 0 else endN c s 0 0 log := by
  unfold opN
  rw [part_all T log h]
theorem opN_zeros (k : Nat) (s : Int) (hk : 1 ≤ k) (hs : 1 ≤ s) (m : Nat) : opN (k : Int) s 0 (List.replicate m 0) = m % k := by
  rw [opN_all _ _ _ _ (fun t ht => by rw [List.mem_replicate] at ht; omega)]
  cases m with
  | zero => simp
  | succ m =>
    rw [if_neg (by simp), endP_rep, if_neg (by omega), endN_rep k s 0 hs (m + 1) 0 0 (by omega) (fun z => by omega), Nat.zero_add]
/-- the second rule has saved, the first has not -/
theorem opN_zeros_T (k : Nat) (s T : Int) (hk : 1 ≤ k) (hs : 1 ≤ s) (hT : 0 ≤ T) (m : Nat) : opN (k : Int) s T (List.replicate m 0) = if s ≤ T then 0 else m % k := by
  rw [opN_all _ _ _ _ (fun t ht => by rw [List.mem_replicate] at ht; omega)]
  cases m with
  | zero => simp
  | succ m =>
    rw [if_neg (by simp), endP_rep, endN_rep k s 0 hs (m + 1) 0 0 (by omega) (fun z => by omega), Nat.zero_add, Int.zero_add]
theorem opN_two (k : Nat) (s T : Int) (hk : 1 ≤ k) (hs : 1 ≤ s) (hT : 1 ≤ T) (m j : Nat) (hm : j = 0 → m = 0) : opN (k : Int) s T (List.replicate m 0 ++ List.replicate j T) = if s ≤ T then j % k else (m + j) % k := by
  rw [opN_all _ _ _ _ (fun t ht => by
    rcases List.mem_append.mp ht with ht | ht
    · rw [List.mem_replicate] at ht; omega
    · rw [List.mem_replicate] at ht; omega)]
  cases j with
  | zero =>
    rw [hm rfl]
    simp
  | succ j =>
    have hne : List.replicate m (0 : Int) ++ List.replicate (j + 1) T ≠ [] := by simp
    rw [if_neg hne, endP_app, endP_rep, if_neg (by omega), endN_app, endN_rep k s 0 hs m 0 0 (by omega) (fun z => by omega), Nat.zero_add]
    have he : endP 0 (List.replicate m (0 : Int)) = 0 := by
      cases m with
      | zero => rfl
      | succ m => exact endP_rep 0 m 0
    rw [he]
    by_cases hp : s ≤ T
    · rw [if_pos hp]
      by_cases hn : 0 < m % k
      · exact endN_repP k s T 0 hs j _ hk ⟨hn, by omega⟩
      · rw [endN_rep k s T hs (j + 1) _ 0 (Nat.mod_lt _ (by omega)) (fun z => hn z.1), show m % k = 0 by omega, Nat.zero_add]
    · rw [if_neg hp, endN_rep k s T hs (j + 1) _ 0 (Nat.mod_lt _ (by omega)) (fun z => by omega), Nat.mod_add_mod]

theorem check_number_F (v lo hi : Int) (h : lo ≤ v ∧ v ≤ hi) : F_check_number [.int v, .int lo, .int hi] = some .none := by
  unfold F_check_number b_check_number
  simp [in_range_F, h.1, h.2]

theorem rounded_up_F (a b : Int) (h : 0 < b ∧ b < 18446744073709551616) : F_rounded_up [.int a, .int b] = some (.int ((a + b - 1) / b)) := by
  unfold F_rounded_up b_rounded_up
  simp [h.1, h.2]

def regM (c s gap number : Int) : Int := if s ≤ gap then number else (number + c - 1) / c
theorem regular_F (c s gap number : Int) (h : 1 ≤ c ∧ c ≤ 20 ∧ 1 ≤ s ∧ s ≤ 1000) (h2 : 0 ≤ gap ∧ gap ≤ 1000) (h4 : 0 ≤ number ∧ number ≤ 1000000000000000) : F_regular_saves [ruleD c s, .int gap, .int number] = some (.int (regM c s gap number)) := by
  have g3 : 0 < c ∧ c < 18446744073709551616 := by omega
  unfold F_regular_saves b_regular_saves regM
  by_cases k : s ≤ gap
  · simp [check_rule_F c s h, check_number_F _ _ _ h2, check_number_F _ _ _ h4, k]
  · simp [check_rule_F c s h, check_number_F _ _ _ h2, check_number_F _ _ _ h4, k]
    simp [ruleD, k, rounded_up_F _ _ g3]

end My

set_option autoImplicit false
namespace My
open PySem PySem.Spec
open PyProof.Rows hiding St
open L2 DL
/-! ## many edits at one time, many edits an idle time apart -/
def stG (c : Int) (n : Nat) (f : Bool) : Nat := if c ≤ ((if 0 < n ∧ f = true then 0 else n : Nat) : Int) + 1 then 0 else (if 0 < n ∧ f = true then 0 else n) + 1
def rwG (c : Int) : Nat → List Bool → List Nat
  | _, [] => []
  | n, f :: fs => stG c n f :: rwG c (stG c n f) fs
def dnG (c : Int) : Nat → List Bool → Nat
  | n, [] => if 0 < n then 1 else 0
  | n, f :: fs => ((if 0 < n ∧ f = true then 1 else 0) + (if c ≤ ((if 0 < n ∧ f = true then 0 else n : Nat) : Int) + 1 then 1 else 0)) + dnG c (stG c n f) fs
def flgG (s : Int) : Int → List Int → List Bool
  | _, [] => []
  | p, t :: ts => decide (p + s ≤ t) :: flgG s t ts
theorem stN_G (c s p : Int) (n : Nat) (t : Int) : stN c s p n t = stG c n (decide (p + s ≤ t)) := by
  unfold stN stG
  simp
theorem rows_G (c s : Int) : ∀ (ts : List Int) (p : Int) (n : Nat), rowsM c s p n ts = rwG c n (flgG s p ts)
  | [], p, n => rfl
  | t :: ts, p, n => by rw [rowsM, flgG, rwG, stN_G, rows_G c s ts]
theorem done_G (c s : Int) : ∀ (ts : List Int) (p : Int) (n : Nat), (doneM c s p n ts).length = dnG c n (flgG s p ts)
  | [], p, n => by
    rw [doneM, flgG, dnG]
    split <;> rfl
  | t :: ts, p, n => by
    rw [doneM, flgG, dnG, List.length_append, done_G c s ts, stN_G]
    congr 1
    unfold stD
    rw [List.length_append]
    by_cases h : 0 < n ∧ p + s ≤ t
    · simp [h]
      split <;> rfl
    · simp only [decide_eq_true_eq, if_neg h]
      congr 1
      split <;> rfl
theorem flg_zero (s : Int) (hs : 1 ≤ s) : ∀ m : Nat, flgG s 0 (List.replicate m 0) = List.replicate m false
  | 0 => rfl
  | m + 1 => by
    rw [List.replicate_succ, List.replicate_succ, flgG, flg_zero s hs m]
    congr 1
    exact decide_eq_false (by omega)
def rowT (s : Int) : Nat → Nat → List Int
  | _, 0 => []
  | lo, m + 1 => s * (lo : Int) :: rowT s (lo + 1) m
def rowF : Nat → List Bool
  | 0 => []
  | m + 1 => false :: List.replicate m true
theorem flg_up (s : Int) : ∀ (m lo : Nat), flgG s (s * (lo : Int)) (rowT s (lo + 1) m) = List.replicate m true
  | 0, lo => rfl
  | m + 1, lo => by
    rw [rowT, flgG, flg_up s m (lo + 1), List.replicate_succ]
    congr 1
    refine decide_eq_true ?_
    have : s * ((lo + 1 : Nat) : Int) = s * (lo : Int) + s := by
      rw [show ((lo + 1 : Nat) : Int) = (lo : Int) + 1 by omega, Int.mul_add, Int.mul_one]
    omega
theorem flg_row (s : Int) (hs : 1 ≤ s) : ∀ m : Nat, flgG s 0 (rowT s 0 m) = rowF m
  | 0 => rfl
  | m + 1 => by
    have h := flg_up s m 0
    rw [show s * ((0 : Nat) : Int) = 0 by omega] at h
    rw [rowT, flgG, rowF, show s * ((0 : Nat) : Int) = 0 by omega, h]
    congr 1
    exact decide_eq_false (by omega)
theorem row_len (s : Int) : ∀ (m lo : Nat), (rowT s lo m).length = m
  | 0, lo => rfl
  | m + 1, lo => by rw [rowT, List.length_cons, row_len s m]
def cz (c : Int) : Nat → Nat → Nat
  | _, 0 => 0
  | n, m + 1 => (if c ≤ (n : Int) + 1 then 1 else 0) + cz c (stG c n false) m
theorem cT_zero (c s : Int) (hs : 1 ≤ s) : ∀ (m n : Nat), cT c s 0 0 n (List.replicate m 0) = cz c n m
  | 0, n => by
    unfold cT cz
    rw [List.replicate_zero, doneM]
    split
    · rw [List.filter_cons]
      simp
      omega
    · rfl
  | m + 1, n => by
    have ih := cT_zero c s hs m (stG c n false)
    unfold cT at ih ⊢
    rw [List.replicate_succ, doneM, List.filter_append, List.length_append, stN_G, decide_eq_false (show ¬ ((0 : Int) + s ≤ 0) by omega), ih, cz]
    congr 1
    unfold stD
    rw [if_neg (show ¬ (0 < n ∧ (0 : Int) + s ≤ 0) by omega), if_neg (show ¬ (0 < n ∧ (0 : Int) + s ≤ 0) by omega), List.nil_append]
    split <;> simp
theorem fin_A : ∀ c < 20, ∀ m < 61, dnG ((c + 1 : Nat) : Int) 0 (List.replicate m false) = (m + c) / (c + 1) := by decide +kernel
theorem fin_B : ∀ c < 20, ∀ m < 61, dnG ((c + 1 : Nat) : Int) 0 (rowF m) = m := by decide +kernel
theorem fin_C : ∀ c < 20, ∀ m < 61, maxL 0 (natsI (rwG ((c + 1 : Nat) : Int) 0 (rowF m))) = if 0 < c ∧ 0 < m then 1 else 0 := by decide +kernel
theorem fin_D : ∀ c < 20, ∀ m < 61, maxL 0 (natsI (rwG ((c + 1 : Nat) : Int) 0 (List.replicate m false))) = (if c < m then c else m : Nat) := by decide +kernel
theorem fin_E : ∀ c < 20, ∀ m < 61, cz ((c + 1 : Nat) : Int) 0 m = m / (c + 1) := by decide +kernel
theorem inr_zero (m : Nat) : InR (List.replicate m 0) := by
  intro t ht
  rw [List.mem_replicate] at ht
  omega
theorem srt_zero (m : Nat) : Srt (List.replicate m 0) := by
  unfold Srt
  rw [List.pairwise_replicate]
  exact Or.inr (Int.le_refl 0)
theorem row_mem (s : Int) : ∀ (m lo : Nat) (t : Int), t ∈ rowT s lo m → ∃ k : Nat, lo ≤ k ∧ k < lo + m ∧ t = s * (k : Int)
  | 0, lo, t, h => by cases h
  | m + 1, lo, t, h => by
    rw [rowT] at h
    rcases List.mem_cons.mp h with h | h
    · exact ⟨lo, Nat.le_refl _, by omega, h⟩
    · obtain ⟨k, h1, h2, h3⟩ := row_mem s m (lo + 1) t h
      exact ⟨k, by omega, by omega, h3⟩
theorem mul_bd (s : Int) (hs : 1 ≤ s ∧ s ≤ 1000) (k : Nat) (hk : k < 60) : 0 ≤ s * (k : Int) ∧ s * (k : Int) ≤ 1000000 := by
  have h1 : 0 ≤ s * (k : Int) := Int.mul_nonneg (by omega) (by omega)
  have h2 : s * (k : Int) ≤ 1000 * 60 := Int.mul_le_mul hs.2 (by omega) (by omega) (by decide)
  omega
theorem inr_row (s : Int) (hs : 1 ≤ s ∧ s ≤ 1000) (m : Nat) (hm : m ≤ 60) : InR (rowT s 0 m) := by
  intro t ht
  obtain ⟨k, _, h2, rfl⟩ := row_mem s m 0 t ht
  exact mul_bd s hs k (by omega)
theorem srt_up (s : Int) (hs : 1 ≤ s) : ∀ (m lo : Nat), Srt (rowT s lo m)
  | 0, lo => List.Pairwise.nil
  | m + 1, lo => by
    rw [rowT]
    refine List.pairwise_cons.mpr ⟨fun t ht => ?_, srt_up s hs m (lo + 1)⟩
    obtain ⟨k, h1, _, rfl⟩ := row_mem s m (lo + 1) t ht
    exact Int.mul_le_mul_of_nonneg_left (by omega) (by omega)

end My

set_option autoImplicit false
namespace My
open PySem PySem.Spec
open PyProof.Rows hiding St
open L2 DL
theorem lost_zero (c s u : Int) (hc : 1 ≤ c ∧ c ≤ 20 ∧ 1 ≤ s ∧ s ≤ 1000) (m : Nat) (hm : m ≤ 60) (e4 : F_unsaved_at [ruleD c s, .tuple (intsD (List.replicate m 0)), .int 0] = some (.int u)) : F_lost [ruleD c s, .tuple (intsD (List.replicate m 0)), .int 0] = lrgD [.int ((m : Int) - u), .int (m : Int)] := by
  have hl : (List.replicate m (0 : Int)).length ≤ 60 := by rw [List.length_replicate]; exact hm
  have e1 := check_rule_F c s hc
  have e2 := check_log_F (List.replicate m 0) hl (inr_zero m) (srt_zero m)
  have e3 := check_time_F 0 (by decide)
  have c1 : c_lost_1 [.dat (ruleD c s), .dat (.tuple (intsD (List.replicate m 0))), .dat (.int 0), .nil, .nil] = some (.list (intsD (List.replicate m 0))) := by
    unfold c_lost_1
    have h : compL (bName 4) (tstD (b2D (varD .bas 4) (varD .bas 2) leD)) (varD .str 4) [.dat (ruleD c s), .dat (.tuple (intsD (List.replicate m 0))), .dat (.int 0), .nil, .nil] (intsD (List.replicate m 0)) = some (intsD (List.replicate m 0)) := by
      have := compL_fm (b := bName 4) (t := tstD (b2D (varD .bas 4) (varD .bas 2) leD)) (g := varD .str 4) (ρ := [.dat (ruleD c s), .dat (.tuple (intsD (List.replicate m 0))), .dat (.int 0), .nil, .nil]) (fun _ => true) id (ds := intsD (List.replicate m 0)) fun d hd => by
        obtain ⟨t, ht, rfl⟩ := List.mem_map.mp hd
        rw [List.mem_replicate] at ht
        obtain ⟨_, rfl⟩ := ht
        exact ⟨[.dat (ruleD c s), .dat (.tuple (intsD (List.replicate m 0))), .dat (.int 0), .nil, .dat (.int 0)], rfl, rfl, fun _ => rfl⟩
      rw [List.filter_eq_self.mpr (fun _ _ => rfl), List.map_id] at this
      exact this
    have hl2 : m ≤ 100000 := by omega
    simp only [ruleD] at h ⊢
    simp [hl2, wipeR, intsD, List.map_replicate] at h ⊢
    rw [h]
    rfl
  have hl3 : (intsD (List.replicate m 0)).length = m := by rw [intsD_len, List.length_replicate]
  generalize intsD (List.replicate m 0) = hp at e2 e4 c1 hl3 ⊢
  unfold F_lost b_lost
  simp only [ruleD] at e1 e4 c1
  simp [e1, e2, e3, e4, c1, hl3]
  split <;> rfl
def hpD (m : Nat) : List D := List.replicate m (.int 0)
theorem hp_eq (m : Nat) : intsD (List.replicate m 0) = hpD m := by simp [intsD, hpD]
theorem row_D (s : Int) : ∀ (m lo : Nat), (List.range m).map (fun k => PyData.int (s * (((lo + k : Nat)) : Int))) = intsD (rowT s lo m)
  | 0, lo => rfl
  | m + 1, lo => by
    rw [List.range_succ_eq_map, List.map_cons, List.map_map, rowT, intsD_cons, ← row_D s m (lo + 1)]
    congr 1
    apply List.map_congr_left
    intro k _
    simp only [Function.comp]
    congr 3
    omega
theorem row_F (c s : Int) (hs : 1 ≤ s ∧ s ≤ 1000) (m : Nat) (hm : m ≤ 60) (x3 x4 x5 : Sl) : c_law_plain_right_1 [.dat (.int c), .dat (.int s), .dat (.int (m : Int)), x3, x4, x5, .nil] = some (.list (intsD (rowT s 0 m))) := by
  unfold c_law_plain_right_1
  have hr := rng1_nat m (by omega)
  have h : compL (bName 6) yesT (b2D (varD .str 1) (varD .str 6) mulT) [.dat (.int c), .dat (.int s), .dat (.int (m : Int)), x3, x4, x5, .nil] (rngL 0 m) = some (intsD (rowT s 0 m)) := by
    rw [← row_D s m 0]
    have := compL_map (b := bName 6) (g := b2D (varD .str 1) (varD .str 6) mulT) (ρ := [.dat (.int c), .dat (.int s), .dat (.int (m : Int)), x3, x4, x5, .nil]) (fun d => match d with
      | .int i => .int (s * i)
      | d => d) (ds := rngL 0 m) fun d hd => by
        obtain ⟨i, rfl, h1, h2⟩ := rngL_mem hd
        refine ⟨[.dat (.int c), .dat (.int s), .dat (.int (m : Int)), x3, x4, x5, .dat (.int i)], rfl, ?_⟩
        have h3 : -18446744073709551616 < s ∧ s < 18446744073709551616 := by omega
        simp [h3]
    rw [this]
    congr 1
    unfold rngL
    rw [List.map_map]
    apply List.map_congr_left
    intro k _
    simp
  have hl : (rngL 0 m).length ≤ 100000 := by unfold rngL; rw [List.length_map, List.length_range]; omega
  simp only [lcD, nI, consA, varD, nilA]
  simp [hr, hl, wipeR] at h ⊢
  rw [h]
  rfl
theorem plain_F (k : Nat) (hk : k < 20) (c s : Int) (hck : c = ((k + 1 : Nat) : Int)) (hs : 1 ≤ s ∧ s ≤ 1000) (m : Nat) (hm : m ≤ 60) : F_law_plain_right [.int c, .int s, .int (m : Int)] = some (.bool true) := by
  have hc : 1 ≤ c ∧ c ≤ 20 ∧ 1 ≤ s ∧ s ≤ 1000 := by omega
  have hl : (List.replicate m (0 : Int)).length ≤ 60 := by rw [List.length_replicate]; exact hm
  have hl2 : (rowT s 0 m).length ≤ 60 := by rw [row_len]; exact hm
  have v1 : ((m % (k + 1) : Nat) : Int) = (m : Int) % c := by rw [hck]; omega
  have v2 : ((m / (k + 1) : Nat) : Int) = (m : Int) / c := by rw [hck]; omega
  have v3 : (((m + k) / (k + 1) : Nat) : Int) = ((m : Int) + c - 1) / c := by
    rw [hck, show (m : Int) + ((k + 1 : Nat) : Int) - 1 = ((m + k : Nat) : Int) by omega]
    omega
  have o1 : opN c s 0 (List.replicate m 0) = m % (k + 1) := by rw [hck]; exact opN_zeros (k + 1) s (by omega) hs.1 m
  have u0 := unsaved_at_F c s 0 hc.1 (List.replicate m 0) (by omega)
  rw [o1, v1] at u0
  have u1 := unsaved_F c s 0 hc _ hl (inr_zero m) (srt_zero m) (by decide)
  rw [o1, v1] at u1
  have u2 := saves_until_F c s 0 hc _ hl (inr_zero m) (srt_zero m) (by decide)
  rw [cT_zero _ s hs.1 m 0, hck, fin_E k hk m (by omega), ← hck, v2] at u2
  have u3 := saves_F c s hc _ hl (inr_zero m) (srt_zero m)
  have n3 := done_G c s (List.replicate m 0) 0 0
  rw [flg_zero s hs.1 m, hck, fin_A k hk m (by omega), ← hck] at n3
  have u4 := saves_F c s hc _ hl2 (inr_row s hs m hm) (srt_up s hs.1 m 0)
  have n4 := done_G c s (rowT s 0 m) 0 0
  rw [flg_row s hs.1 m, hck, fin_B k hk m (by omega), ← hck] at n4
  have u5 := most_unsaved_F c s hc _ hl2 (inr_row s hs m hm) (srt_up s hs.1 m 0)
  have n5 : RR c s (rowT s 0 m) = if 0 < k ∧ 0 < m then 1 else 0 := by
    unfold RR
    rw [rows_G, flg_row s hs.1 m, hck, fin_C k hk m (by omega)]
  have n5' : (if 0 < k ∧ 0 < m then (1 : Int) else 0) = if (1 < c ∧ 0 < (m : Int)) then 1 else 0 := by
    by_cases h : 0 < k ∧ 0 < m
    · rw [if_pos h, if_pos (by omega)]
    · rw [if_neg h, if_neg (by omega)]
  rw [n5, n5'] at u5
  have u6 := most_unsaved_F c s hc _ hl (inr_zero m) (srt_zero m)
  have n6 : RR c s (List.replicate m 0) = ((if k < m then k else m : Nat) : Int) := by
    unfold RR
    rw [rows_G, flg_zero s hs.1 m, hck, fin_D k hk m (by omega)]
  have n6' : ((if k < m then k else m : Nat) : Int) = if (m : Int) < c - 1 then (m : Int) else c - 1 := by
    split <;> split <;> omega
  rw [n6, n6'] at u6
  have u7 := lost_zero c s _ hc m hm u0
  have u8 := regular_F c s s (m : Int) hc (by omega) (by omega)
  have u9 := regular_F c s 0 (m : Int) hc (by omega) (by omega)
  have r := row_F c s hs m hm .nil .nil .nil
  unfold regM at u8 u9
  rw [if_pos (Int.le_refl s)] at u8
  rw [if_neg (by omega)] at u9
  have n3' : (((doneM c s 0 0 (List.replicate m 0)).length : Nat) : Int) = ((m : Int) + c - 1) / c := by rw [n3, v3]
  clear u0 n3 n5 n5' n6 n6' o1 v1 v2 v3
  rw [hp_eq] at u1 u2 u3 u6 u7
  have hh : intsD (List.replicate m 0) = hpD m := hp_eq m
  have hm2 : -1000 ≤ (m : Int) ∧ (m : Int) ≤ 1000 := by omega
  unfold hpD at u1 u2 u3 u6 u7
  generalize hrw : intsD (rowT s 0 m) = rw at u4 u5 r
  have hrl : rw.length ≤ 100000 := by rw [← hrw, intsD_len, row_len]; omega
  generalize hd1 : doneM c s 0 0 (List.replicate m 0) = d1 at u3 n3'
  generalize hd2 : doneM c s 0 0 (rowT s 0 m) = d2 at u4 n4
  have hc0 : 0 < c ∧ c < 18446744073709551616 := by omega
  have b1 : 0 ≤ (m : Int) % c := Int.emod_nonneg _ (by omega)
  have b2 : (m : Int) % c < c := Int.emod_lt_of_pos _ (by omega)
  have h1 : -1000000 ≤ (m : Int) - (m : Int) % c := by omega
  have h2 : (m : Int) - (m : Int) % c ≤ 1000000 := by omega
  have h3 : (m : Int) ≤ 1000000 := by omega
  obtain ⟨L, hL⟩ : ∃ L : List Int, rngL ((m : Int) - (m : Int) % c) ((m : Int) - ((m : Int) - (m : Int) % c)).toNat = intsD L := ⟨(List.range ((m : Int) - ((m : Int) - (m : Int) % c)).toNat).map fun (i : Nat) => ((m : Int) - (m : Int) % c) + (i : Int), by
    unfold rngL intsD
    rw [List.map_map]
    rfl⟩
  have hsh : SeqAt.shaped (.list (intsD L)) = true := shaped_ints L
  have hev : PyData.eqvAll (intsD L) (intsD L) = true := by rw [eqvAll_ints]; exact decide_eq_true rfl
  have u7' : lrgD [PyData.int ((m : Int) - (m : Int) % c), PyData.int (m : Int)] = some (.list (intsD L)) := by
    simp [h1, h2, h3, hL]
  rw [u7'] at u7
  generalize intsD L = L' at u7 hL hsh hev
  unfold F_law_plain_right b_law_plain_right
  simp only [ruleD] at u1 u2 u3 u4 u5 u6 u7 u8 u9
  by_cases q1 : 1 < c
  · by_cases q2 : 0 < m
    · have q3 : 0 < (m : Int) := by omega
      simp [q1, q2, q3, hm2, r, hrl, u1, u2, u3, u4, u5, u6, u7, u8, u9, n3', n4, hc0, h1, h2, h3, hL, hsh, hev]
      done
    · have q3 : ¬ 0 < (m : Int) := by omega
      simp [q1, q2, q3, hm2, r, hrl, u1, u2, u3, u4, u5, u6, u7, u8, u9, n3', n4, hc0, h1, h2, h3, hL, hsh, hev]
      done
  · simp [q1, hm2, r, hrl, u1, u2, u3, u4, u5, u6, u7, u8, u9, n3', n4, hc0, h1, h2, h3, hL, hsh, hev]
    done

end My

namespace My
open PySem PySem.Spec
open PyProof.Rows hiding St
open L2 DL
noncomputable section
def rng1T : List D → Option (List D)
  | [.int j] => if j.natAbs < 1000 then some (rngL 0 j.toNat) else rng1 [.int j]
  | ds => rng1 ds
def rng2T : List D → Option (List D)
  | [.int i, .int j] => if i.natAbs < 1000 ∧ j.natAbs < 1000 then some (rngL i (j - i).toNat) else rng2 [.int i, .int j]
  | ds => rng2 ds
theorem rng1_T : rng1 = rng1T := by
  funext ds
  unfold rng1T
  split
  · next j =>
    split
    · rw [rng1_ok _ (by omega) (by omega)]
    · rfl
  · rfl
theorem rng2_T : rng2 = rng2T := by
  funext ds
  unfold rng2T
  split
  · next i j =>
    split
    · rw [rng2_ok _ _ (by omega) (by omega) (by omega) (by omega)]
    · rfl
  · rfl
def few_C : Rho → Option Out :=
    (seqF (dropE (toE (nD (consA (varD .str 0) nilA) F_check_log)))
    (seqF (dropE (toE (nD (consA (varD .str 1) (consA (kD (.int 0)) (consA (kD (.int 60)) nilA))) F_check_number)))
    (seqF (setP 2 ((lcD (nI (consA (kD (.int 1)) (consA (b2D (kD (.int 20)) (kD (.int 1)) addD) nilA)) rng2T) [3] (bName 3) yesT (nD (consA (varD .str 3) (consA (nD (consA (varD .str 0) (consA (varD .str 3) (consA (varD .str 1) nilA))) F_loosest) nilA)) tupD))))
    (retP (nD (consA c_fewest_saves_2 nilA) minD)))))
theorem few_T : F_fewest_saves = runF 2 5 few_C := by
  unfold few_C
  rw [← rng2_T]; rfl
theorem first_true : F_law_first_right [.tuple [.int 3, .int 10], .tuple [.int 0, .int 2, .int 4, .int 20, .int 25, .int 40]] = some (.bool true) := by
  unfold F_law_first_right b_law_first_right
  rw [few_T]
  kernel_rfl
def fit_C : Rho → Option Out :=
    (seqF (dropE (toE (nD (consA (varD .str 0) nilA) F_check_log)))
    (seqF (iteF (toT (notT (tstD (nD (consA (varD .bas 1) nilA) F_are_times)))) neverF skipF)
    (seqF (setO 2 (nD nilA lstD))
    (seqF (forF (toI (nI (consA (kD (.int 1)) (consA (b2D (kD (.int 20)) (kD (.int 1)) addD) nilA)) rng2T)) (bName 3) l_fitting_rules_2)
    (retP (varD .bas 2))))))
theorem fit_T : F_fitting_rules = runF 2 7 fit_C := by
  unfold fit_C
  rw [← rng2_T]; rfl
def wl_C : Rho → Option Out :=
    (seqF (dropE (toE (nD (consA (varD .str 0) nilA) F_check_log)))
    (seqF (iteF (toT (notT (tstD (nD (consA (varD .bas 1) nilA) F_are_losses)))) neverF skipF)
    (seqF (setP 2 ((lc2D (nI (consA (kD (.int 1)) (consA (b2D (kD (.int 20)) (kD (.int 1)) addD) nilA)) rng2T) [3, 4] (bName 3) yesT (nI (consA (kD (.int 1)) (consA (b2D (kD (.int 60)) (kD (.int 1)) addD) nilA)) rng2T) [4] (bName 4) yesT (nD (consA (varD .str 3) (consA (varD .str 4) nilA)) tupD))))
    (seqF (setP 5 c_wrong_losses_3)
    (seqF (iteF (toT (tstD (b2D (nD nilA lstD) (varD .bas 5) inD))) (retP (nD nilA lstD)) skipF)
    (retP ((lcD (nI (consA (nD (consA (varD .str 1) nilA) lenD) nilA) rng1T) [9] (bName 9) (tstD (b2D (nD (consA (varD .bas 9) nilA) lstD) (varD .bas 5) inD)) (varD .str 9)))))))))
theorem wl_T : F_wrong_losses = runF 2 10 wl_C := by
  unfold wl_C
  rw [← rng2_T, ← rng1_T]; rfl
theorem second_true : F_law_second_right [] = some (.bool true) := by
  unfold F_law_second_right b_law_second_right
  rw [fit_T, wl_T]
  kernel_rfl
end
end My

set_option autoImplicit false
namespace My
open PySem PySem.Spec
open PyProof.Rows hiding St
open L2 DL
def JL (a : Addr) (ρ : Rho) : Prop := ∃ s1, ρ = [.raw (.ref a), s1]
theorem law_body (a : Addr) (bs : List D) (ρ : Rho) (hb : Bag 100000 bs) (h : JL a ρ) : ∃ ρ', b_lawbody (ρ.set 1 (.own bs)) = some (.nx ρ') ∧ JL a ρ' := by
  obtain ⟨s1, rfl⟩ := h
  obtain ⟨r1, bs1, e1, a1, b1, hb1⟩ := take_F _ 20 bs hb (by decide) (by decide) (by decide)
  obtain ⟨r2, bs2, e2, a2, b2, hb2⟩ := take_F _ 1000 bs1 hb1 (by decide) (by decide) (by decide)
  obtain ⟨r3, bs3, e3, a3, b3, hb3⟩ := take_F _ 61 bs2 hb2 (by decide) (by decide) (by decide)
  have p := plain_F r1.toNat (by omega) (1 + r1) (1 + r2) (by omega) (by omega) r3.toNat (by omega)
  rw [show ((r3.toNat : Nat) : Int) = r3 by omega] at p
  refine ⟨[.raw (.ref a), .own bs3], ?_, ⟨_, rfl⟩⟩
  unfold b_lawbody
  simp [e1, e2, e3, p]
theorem law_true (a : Addr) (ns : List Int) (hns : ns.length ≤ 63) : ∃ ρ', b_law a ns (.raw (.ref a) :: List.replicate 1 .nil) = some (.rt (.bool true) ρ') := by
  unfold b_law
  obtain ⟨ρ1, e1, j1⟩ := lawF_ok (i := 1) (n := 6) (a := a) (ns := ns) (by decide) (JL a) (fun ρ h => by obtain ⟨s1, rfl⟩ := h; rfl) (fun bs ρ hb h => law_body a bs ρ hb h) (ρ := .raw (.ref a) :: List.replicate 1 .nil) ⟨_, rfl⟩
  refine ⟨ρ1, seq_nx e1 ?_⟩
  have f1 := first_true
  have f2 := second_true
  simp [f1, f2]

end My

open PySem PySem.W PyProof.Rows in
set_option maxRecDepth 100000 in
set_option maxHeartbeats 0 in
theorem PySem.Challenge.cw_autosaves_k22_examples_by_hand_holds : PySem.Challenge.rw_autosaves_k22_examples_by_hand.Holds := by
  w_on; o_law; k_head; (case hw => w_witness2)
  k_fill
  refine L2.walk_of (l := PySem.Challenge.rw_autosaves_k22_examples_by_hand) (n := 63) (k := 10) (x := "_law_script") (CX := fun _ => L2.CX0) (sp := fun w => DL.spLaw _) rfl (by decide) rfl ⟨rfl, by decide, by decide⟩ (fun w h Y => PySem.W.kIn_of Y) ?F (fun _ _ a ns hl _ hS => ⟨a, ns, rfl, hS, hl, fun _ => rfl⟩) (fun _ _ _ _ _ h => h)
  case F =>
    intro w mg fa h KX G hmg
    refine' My.all_mk KX G hmg ?a0 ?l0 ?c0 ?k0 ?a1 ?l1 ?c1 ?k1 ?a2 ?l2 ?c2 ?k2 ?a3 ?l3 ?c3 ?k3 ?a4 ?l4 ?c4 ?k4 ?a5 ?l5 ?c5 ?k5 ?a6 ?l6 ?c6 ?k6 ?a7 ?l7 ?c7 ?k7 ?a8 ?l8 ?c8 ?k8 ?a9 ?l9 ?c9 ?k9 ?a10 ?l10 ?c10 ?k10 ?a11 ?l11 ?c11 ?k11 ?a12 ?l12 ?c12 ?k12 ?a13 ?l13 ?c13 ?k13 ?a14 ?l14 ?c14 ?k14 ?a15 ?l15 ?c15 ?k15 ?a16 ?l16 ?c16 ?k16 ?a17 ?l17 ?c17 ?k17 ?a18 ?l18 ?c18 ?k18 ?a19 ?l19 ?c19 ?k19 ?a20 ?l20 ?c20 ?k20 ?a21 ?l21 ?c21 ?k21 ?a22 ?l22 ?c22 ?k22 ?a23 ?l23 ?c23 ?k23 ?a24 ?l24 ?c24 ?k24 ?a25 ?l25 ?c25 ?k25 ?a26 ?l26 ?c26 ?k26 ?a27 ?l27 ?c27 ?k27 ?a28 ?l28 ?c28 ?k28 ?a29 ?l29 ?c29 ?k29 ?a30 ?l30 ?c30 ?k30 ?a31 ?l31 ?c31 ?k31 ?a32 ?l32 ?c32 ?k32 ?a33 ?l33 ?c33 ?k33 ?a34 ?l34 ?c34 ?k34 ?a35 ?l35 ?c35 ?k35 ?a36 ?l36 ?c36 ?k36 ?a37 ?l37 ?c37 ?k37 ?a38 ?l38 ?c38 ?k38 ?a39 ?l39 ?c39 ?k39 ?a40 ?l40 ?c40 ?k40 ?a41 ?l41 ?c41 ?k41 ?a42 ?l42 ?c42 ?k42 ?a43 ?l43 ?c43 ?k43 ?a44 ?l44 ?c44 ?k44 ?a45 ?l45 ?c45 ?k45 ?a46 ?l46 ?c46 ?k46 ?a47 ?l47 ?c47 ?k47 ?a48 ?l48 ?c48 ?k48 ?a49 ?l49 ?c49 ?k49 ?z0 ?z1 ?z2 ?z3 ?z4 ?z5 ?z6 ?z7 ?z8 ?z9 ?z10 ?z11 ?z12 ?z13 ?z14 ?w0 ?w1 ?w2 ?w3 ?w4 ?w5 ?w6 ?w7 ?hC ?hpg ?hhd ?hpo ?hsa ?hmk ?hkc ?hnr ?hns ?hmo ?hmg ?ma0 ?ml0 ?mc0 ?mk0 ?mi0 ?mf0 ?ma1 ?ml1 ?mc1 ?mk1 ?mi1 ?mf1 ?ma2 ?ml2 ?mc2 ?mk2 ?mi2 ?mf2 ?ma3 ?ml3 ?mc3 ?mk3 ?mi3 ?mf3 ?ma4 ?mg4 ?mt4 ?mr4 ?ml4 ?mc4 ?mk4 ?ma5 ?mg5 ?mt5 ?mr5 ?ml5 ?mc5 ?mk5 ?ma6 ?ml6 ?mc6 ?mk6 ?mi6 ?mf6 ?ma7 ?ml7 ?mc7 ?mk7 ?mi7 ?mf7 ?ma8 ?ml8 ?mc8 ?mk8 ?mi8 ?mf8 My.law_true
    (case a0 => k_is); (case l0 => k_is); (case c0 => k_is); (case k0 => k_is); (case a1 => k_is); (case l1 => k_is); (case c1 => k_is); (case k1 => k_is); (case a2 => k_is); (case l2 => k_is); (case c2 => k_is); (case k2 => k_is); (case a3 => k_is); (case l3 => k_is); (case c3 => k_is); (case k3 => k_is); (case a4 => k_is); (case l4 => k_is); (case c4 => k_is); (case k4 => k_is); (case a5 => k_is); (case l5 => k_is); (case c5 => k_is); (case k5 => k_is); (case a6 => k_is); (case l6 => k_is); (case c6 => k_is); (case k6 => k_is); (case a7 => k_is); (case l7 => k_is); (case c7 => k_is); (case k7 => k_is); (case a8 => k_is); (case l8 => k_is); (case c8 => k_is); (case k8 => k_is); (case a9 => k_is); (case l9 => k_is); (case c9 => k_is); (case k9 => k_is); (case a10 => k_is); (case l10 => k_is); (case c10 => k_is); (case k10 => k_is); (case a11 => k_is); (case l11 => k_is); (case c11 => k_is); (case k11 => k_is); (case a12 => k_is); (case l12 => k_is); (case c12 => k_is); (case k12 => k_is); (case a13 => k_is); (case l13 => k_is); (case c13 => k_is); (case k13 => k_is); (case a14 => k_is); (case l14 => k_is); (case c14 => k_is); (case k14 => k_is); (case a15 => k_is); (case l15 => k_is); (case c15 => k_is); (case k15 => k_is); (case a16 => k_is); (case l16 => k_is); (case c16 => k_is); (case k16 => k_is); (case a17 => k_is); (case l17 => k_is); (case c17 => k_is); (case k17 => k_is); (case a18 => k_is); (case l18 => k_is); (case c18 => k_is); (case k18 => k_is); (case a19 => k_is); (case l19 => k_is); (case c19 => k_is); (case k19 => k_is); (case a20 => k_is); (case l20 => k_is); (case c20 => k_is); (case k20 => k_is); (case a21 => k_is); (case l21 => k_is); (case c21 => k_is); (case k21 => k_is); (case a22 => k_is); (case l22 => k_is); (case c22 => k_is); (case k22 => k_is); (case a23 => k_is); (case l23 => k_is); (case c23 => k_is); (case k23 => k_is); (case a24 => k_is); (case l24 => k_is); (case c24 => k_is); (case k24 => k_is); (case a25 => k_is); (case l25 => k_is); (case c25 => k_is); (case k25 => k_is); (case a26 => k_is); (case l26 => k_is); (case c26 => k_is); (case k26 => k_is); (case a27 => k_is); (case l27 => k_is); (case c27 => k_is); (case k27 => k_is); (case a28 => k_is); (case l28 => k_is); (case c28 => k_is); (case k28 => k_is); (case a29 => k_is); (case l29 => k_is); (case c29 => k_is); (case k29 => k_is); (case a30 => k_is); (case l30 => k_is); (case c30 => k_is); (case k30 => k_is); (case a31 => k_is); (case l31 => k_is); (case c31 => k_is); (case k31 => k_is); (case a32 => k_is); (case l32 => k_is); (case c32 => k_is); (case k32 => k_is); (case a33 => k_is); (case l33 => k_is); (case c33 => k_is); (case k33 => k_is); (case a34 => k_is); (case l34 => k_is); (case c34 => k_is); (case k34 => k_is); (case a35 => k_is); (case l35 => k_is); (case c35 => k_is); (case k35 => k_is); (case a36 => k_is); (case l36 => k_is); (case c36 => k_is); (case k36 => k_is); (case a37 => k_is); (case l37 => k_is); (case c37 => k_is); (case k37 => k_is); (case a38 => k_is); (case l38 => k_is); (case c38 => k_is); (case k38 => k_is); (case a39 => k_is); (case l39 => k_is); (case c39 => k_is); (case k39 => k_is); (case a40 => k_is); (case l40 => k_is); (case c40 => k_is); (case k40 => k_is); (case a41 => k_is); (case l41 => k_is); (case c41 => k_is); (case k41 => k_is); (case a42 => k_is); (case l42 => k_is); (case c42 => k_is); (case k42 => k_is); (case a43 => k_is); (case l43 => k_is); (case c43 => k_is); (case k43 => k_is); (case a44 => k_is); (case l44 => k_is); (case c44 => k_is); (case k44 => k_is); (case a45 => k_is); (case l45 => k_is); (case c45 => k_is); (case k45 => k_is); (case a46 => k_is); (case l46 => k_is); (case c46 => k_is); (case k46 => k_is); (case a47 => k_is); (case l47 => k_is); (case c47 => k_is); (case k47 => k_is); (case a48 => k_is); (case l48 => k_is); (case c48 => k_is); (case k48 => k_is); (case a49 => k_is); (case l49 => k_is); (case c49 => k_is); (case k49 => k_is); (case z0 => k_is); (case z1 => k_is); (case z2 => k_is); (case z3 => k_is); (case z4 => k_is); (case z5 => k_is); (case z6 => k_is); (case z7 => k_is); (case z8 => k_is); (case z9 => k_is); (case z10 => k_is); (case z11 => k_is); (case z12 => k_is); (case z13 => k_is); (case z14 => k_is); (case w0 => k_is); (case w1 => k_is); (case w2 => k_is); (case w3 => k_is); (case w4 => k_is); (case w5 => k_is); (case w6 => k_is); (case w7 => k_is); (case hC => k_is); (case hpg => k_is); (case hhd => k_is); (case hpo => k_is); (case hsa => k_is); (case hmk => k_is); (case hkc => k_is); (case hnr => k_is); (case hns => k_is); (case hmo => k_is); (case hmg => k_is); (case ma0 => k_is); (case ml0 => k_is); (case mc0 => k_is); (case mk0 => k_is); (case mi0 => k_is); (case mf0 => k_is); (case ma1 => k_is); (case ml1 => k_is); (case mc1 => k_is); (case mk1 => k_is); (case mi1 => k_is); (case mf1 => k_is); (case ma2 => k_is); (case ml2 => k_is); (case mc2 => k_is); (case mk2 => k_is); (case mi2 => k_is); (case mf2 => k_is); (case ma3 => k_is); (case ml3 => k_is); (case mc3 => k_is); (case mk3 => k_is); (case mi3 => k_is); (case mf3 => k_is); (case ma4 => k_is); (case mg4 => k_is); (case mt4 => k_is); (case mr4 => k_is); (case ml4 => k_is); (case mc4 => k_is); (case mk4 => k_is); (case ma5 => k_is); (case mg5 => k_is); (case mt5 => k_is); (case mr5 => k_is); (case ml5 => k_is); (case mc5 => k_is); (case mk5 => k_is); (case ma6 => k_is); (case ml6 => k_is); (case mc6 => k_is); (case mk6 => k_is); (case mi6 => k_is); (case mf6 => k_is); (case ma7 => k_is); (case ml7 => k_is); (case mc7 => k_is); (case mk7 => k_is); (case mi7 => k_is); (case mf7 => k_is); (case ma8 => k_is); (case ml8 => k_is); (case mc8 => k_is); (case mk8 => k_is); (case mi8 => k_is); (case mf8 => k_is)


import PyProof.Rows.All
import Wide.All
import OpenK.AllK
import Wide.FinOn
import HandS.ForMost
import HandS.Wide
import HandS.TupAny
import HandS.TupMul
import HandS.IsInst
import HandS.Walk
import HandS.Codes
import HandS.Style
import HandS.Zip
import KE.GoesEnum
import HandS.SortInts
import HandS.Deep
import PyProof.ListMulRoad
import PyProof.FactsAll.tuple_2
import HandS.Conv
import HandS.Star
import HandS.SetFor
import HandS.Strs
import KE.SortData
import HandS.Remove
import KE.DataMinMax
import PySem.Challenge.RW_autosaves_k11_whole_fewest_saves
set_option Elab.async false
set_option linter.all false
set_option maxRecDepth 100000
set_option maxHeartbeats 4000000
namespace DL
open PySem PySem.Spec PyProof.Rows L2
abbrev D := PyData
/-! ## data at a value -/
mutual
def Rep (O : Addr → Prop) (H : Hp) : D → V → Prop
  | .none, v => v = .non
  | .bool b, v => v = .bl b
  | .int i, v => v = .int i
  | .str x, v => v = .str x
  | .list ds, v => ∃ a vs, v = .ref a ∧ ¬ O a ∧ H a = some (.lst vs) ∧ RepL O H ds vs
  | .tuple ds, v => ∃ a vs, v = .ref a ∧ H a = some (.tup vs) ∧ RepL O H ds vs
  | .dict _, _ => False
def RepL (O : Addr → Prop) (H : Hp) : List D → List V → Prop
  | [], vs => vs = []
  | d :: ds, vs => ∃ v ws, vs = v :: ws ∧ Rep O H d v ∧ RepL O H ds ws
end
structure Mv (O : Addr → Prop) (H : Hp) (O' : Addr → Prop) (H' : Hp) : Prop where
  keep : ∀ b o, H b = some o → ((∀ vs, o ≠ .lst vs) ∨ ¬ O b) → H' b = some o
  out : ∀ b, O' b → O b ∨ H b = none
mutual
theorem Rep.mv {O O' : Addr → Prop} {H H' : Hp} (m : Mv O H O' H') : ∀ (d : D) (v : V), Rep O H d v → Rep O' H' d v
  | .none, v, h => by simpa only [Rep] using h
  | .bool b, v, h => by simpa only [Rep] using h
  | .int b, v, h => by simpa only [Rep] using h
  | .str b, v, h => by simpa only [Rep] using h
  | .list ds, v, h => by
    simp only [Rep] at h ⊢
    obtain ⟨a, vs, rfl, no, ha, r⟩ := h
    refine ⟨a, vs, rfl, fun q => ?_, m.keep a _ ha (.inr no), RepL.mv m ds vs r⟩
    rcases m.out a q with z | z
    · exact no z
    · rw [ha] at z; cases z
  | .tuple ds, v, h => by
    simp only [Rep] at h ⊢
    obtain ⟨a, vs, rfl, ha, r⟩ := h
    exact ⟨a, vs, rfl, m.keep a _ ha (.inl fun vs z => by cases z), RepL.mv m ds vs r⟩
  | .dict _, v, h => by simp only [Rep] at h
theorem RepL.mv {O O' : Addr → Prop} {H H' : Hp} (m : Mv O H O' H') : ∀ (ds : List D) (vs : List V), RepL O H ds vs → RepL O' H' ds vs
  | [], vs, h => by simpa only [RepL] using h
  | d :: ds, vs, h => by
    simp only [RepL] at h ⊢
    obtain ⟨v, ws, rfl, r1, r2⟩ := h
    exact ⟨v, ws, rfl, Rep.mv m d v r1, RepL.mv m ds ws r2⟩
end
theorem Mv.same {O : Addr → Prop} {H H' : Hp} (s : Same H H') : Mv O H O H' := ⟨fun b o e _ => s b o e, fun _ h => .inl h⟩
theorem Mv.less {O O' : Addr → Prop} {H : Hp} (s : ∀ b, O' b → O b) : Mv O H O' H := ⟨fun _ _ e _ => e, fun b h => .inl (s b h)⟩
theorem Mv.fresh {O : Addr → Prop} {H : Hp} {p : Addr} (hp : H p = none) : Mv O H (fun b => O b ∨ b = p) H := ⟨fun _ _ e _ => e, fun b h => by
  rcases h with h | rfl
  · exact .inl h
  · exact .inr hp⟩
theorem Rep.same {O : Addr → Prop} {H H' : Hp} {d : D} {v : V} (s : Same H H') (h : Rep O H d v) : Rep O H' d v := Rep.mv (.same s) d v h
theorem RepL.same {O : Addr → Prop} {H H' : Hp} {ds : List D} {vs : List V} (s : Same H H') (h : RepL O H ds vs) : RepL O H' ds vs := RepL.mv (.same s) ds vs h
theorem Rep.less {O O' : Addr → Prop} {H : Hp} {d : D} {v : V} (s : ∀ b, O' b → O b) (h : Rep O H d v) : Rep O' H d v := Rep.mv (.less s) d v h
theorem RepL.less {O O' : Addr → Prop} {H : Hp} {ds : List D} {vs : List V} (s : ∀ b, O' b → O b) (h : RepL O H ds vs) : RepL O' H ds vs := RepL.mv (.less s) ds vs h
theorem RepL.length {O : Addr → Prop} {H : Hp} : ∀ {ds : List D} {vs : List V}, RepL O H ds vs → ds.length = vs.length
  | [], vs, h => by simp only [RepL] at h; subst h; rfl
  | d :: ds, vs, h => by
    simp only [RepL] at h
    obtain ⟨v, ws, rfl, _, r⟩ := h
    simp only [List.length_cons, RepL.length r]
theorem RepL.get {O : Addr → Prop} {H : Hp} : ∀ {ds : List D} {vs : List V} {i : Nat} {d : D}, RepL O H ds vs → ds[i]? = some d → ∃ v, vs[i]? = some v ∧ Rep O H d v
  | [], vs, i, d, h, e => by simp at e
  | d :: ds, vs, 0, d', h, e => by
    simp only [RepL] at h
    obtain ⟨v, ws, rfl, r1, r⟩ := h
    simp at e; subst e
    exact ⟨v, rfl, r1⟩
  | d :: ds, vs, i + 1, d', h, e => by
    simp only [RepL] at h
    obtain ⟨v, ws, rfl, r1, r⟩ := h
    obtain ⟨u, h1, h2⟩ := RepL.get (i := i) r (by simpa using e)
    exact ⟨u, by simpa using h1, h2⟩
theorem RepL.getV {O : Addr → Prop} {H : Hp} {ds : List D} {vs : List V} {i : Nat} {v : V} (h : RepL O H ds vs) (e : vs[i]? = some v) : ∃ d, ds[i]? = some d ∧ Rep O H d v := by
  have hl := h.length
  have hi : i < vs.length := (List.getElem?_eq_some_iff.mp e).1
  obtain ⟨u, e1, r⟩ := h.get (i := i) (d := ds[i]) (by simp [hl, hi])
  rw [e] at e1; cases e1
  exact ⟨_, by simp [hl, hi], r⟩
theorem RepL.append {O : Addr → Prop} {H : Hp} : ∀ {ds es : List D} {vs ws : List V}, RepL O H ds vs → RepL O H es ws → RepL O H (ds ++ es) (vs ++ ws)
  | [], es, vs, ws, h, h' => by simp only [RepL] at h; subst h; exact h'
  | d :: ds, es, vs, ws, h, h' => by
    simp only [RepL] at h
    obtain ⟨v, us, rfl, r1, r⟩ := h
    simp only [List.cons_append, RepL]
    exact ⟨v, us ++ ws, rfl, r1, RepL.append r h'⟩
theorem RepL.one {O : Addr → Prop} {H : Hp} {d : D} {v : V} (h : Rep O H d v) : RepL O H [d] [v] := by
  simp only [RepL]
  exact ⟨v, [], rfl, h, rfl⟩
theorem RepL.nil {O : Addr → Prop} {H : Hp} : RepL O H [] [] := by simp only [RepL]
theorem RepL.cons {O : Addr → Prop} {H : Hp} {d : D} {v : V} {ds : List D} {vs : List V} (h : Rep O H d v) (h' : RepL O H ds vs) : RepL O H (d :: ds) (v :: vs) := by
  simp only [RepL]
  exact ⟨v, vs, rfl, h, h'⟩
theorem RepL.take {O : Addr → Prop} {H : Hp} : ∀ {ds : List D} {vs : List V} (n : Nat), RepL O H ds vs → RepL O H (ds.take n) (vs.take n)
  | _, _, 0, _ => by simpa using RepL.nil
  | [], vs, n + 1, h => by simp only [RepL] at h; subst h; simpa using RepL.nil
  | d :: ds, vs, n + 1, h => by
    simp only [RepL] at h
    obtain ⟨v, us, rfl, r1, r⟩ := h
    exact RepL.cons r1 (RepL.take n r)
theorem RepL.drop {O : Addr → Prop} {H : Hp} : ∀ {ds : List D} {vs : List V} (n : Nat), RepL O H ds vs → RepL O H (ds.drop n) (vs.drop n)
  | _, _, 0, h => by simpa using h
  | [], vs, n + 1, h => by simp only [RepL] at h; subst h; simpa using RepL.nil
  | d :: ds, vs, n + 1, h => by
    simp only [RepL] at h
    obtain ⟨v, us, rfl, r1, r⟩ := h
    exact RepL.drop n r
theorem RepL.set {O : Addr → Prop} {H : Hp} {d : D} {v : V} (hr : Rep O H d v) : ∀ {ds : List D} {vs : List V} (n : Nat), RepL O H ds vs → RepL O H (ds.set n d) (vs.set n v)
  | [], vs, n, h => by simp only [RepL] at h; subst h; simpa using RepL.nil
  | e :: ds, vs, 0, h => by
    simp only [RepL] at h
    obtain ⟨w, us, rfl, r1, r⟩ := h
    exact RepL.cons hr r
  | e :: ds, vs, n + 1, h => by
    simp only [RepL] at h
    obtain ⟨w, us, rfl, r1, r⟩ := h
    exact RepL.cons r1 (RepL.set hr n r)
theorem RepL.dropLast {O : Addr → Prop} {H : Hp} {ds : List D} {vs : List V} (h : RepL O H ds vs) : RepL O H ds.dropLast vs.dropLast := by
  rw [List.dropLast_eq_take, List.dropLast_eq_take, h.length]
  exact h.take _
theorem RepL.reverse {O : Addr → Prop} {H : Hp} : ∀ {ds : List D} {vs : List V}, RepL O H ds vs → RepL O H ds.reverse vs.reverse
  | [], vs, h => by simp only [RepL] at h; subst h; exact RepL.nil
  | d :: ds, vs, h => by
    simp only [RepL] at h
    obtain ⟨w, us, rfl, r1, r⟩ := h
    simp only [List.reverse_cons]
    exact RepL.append (RepL.reverse r) (RepL.one r1)
mutual
theorem Rep.dp {K : PySem.W.Frag} {O : Addr → Prop} {H : Hp} : ∀ {d : D} {v : V}, Rep O H d v → Dp K H v d
  | .none, v, h => by simp only [Rep] at h; subst h; exact .non
  | .bool b, v, h => by simp only [Rep] at h; subst h; exact .bl b
  | .int b, v, h => by simp only [Rep] at h; subst h; exact .int b
  | .str b, v, h => by simp only [Rep] at h; subst h; exact .str b
  | .list ds, v, h => by
    simp only [Rep] at h
    obtain ⟨a, vs, rfl, no, ha, r⟩ := h
    exact .lst (.of ha) (RepL.dp r)
  | .tuple ds, v, h => by
    simp only [Rep] at h
    obtain ⟨a, vs, rfl, ha, r⟩ := h
    exact .tup (.of ha) (RepL.dp r)
  | .dict _, v, h => by simp only [Rep] at h
theorem RepL.dp {K : PySem.W.Frag} {O : Addr → Prop} {H : Hp} : ∀ {ds : List D} {vs : List V}, RepL O H ds vs → DpAll K H vs ds
  | [], vs, h => by simp only [RepL] at h; subst h; exact .nil
  | d :: ds, vs, h => by
    simp only [RepL] at h
    obtain ⟨v, us, rfl, r1, r⟩ := h
    exact .cons (Rep.dp r1) (RepL.dp r)
end
/-! ### data without lists -/
mutual
@[simp] def imm : D → Bool
  | .list _ => false
  | .tuple ds => immL ds
  | .dict _ => false
  | .none => true
  | .bool _ => true
  | .int _ => true
  | .str _ => true
@[simp] def immL : List D → Bool
  | [] => true
  | d :: ds => imm d && immL ds
end
mutual
theorem Rep.imm {O O' : Addr → Prop} {H : Hp} : ∀ {d : D} {v : V}, imm d = true → Rep O H d v → Rep O' H d v
  | .none, v, _, h => by simpa only [Rep] using h
  | .bool b, v, _, h => by simpa only [Rep] using h
  | .int b, v, _, h => by simpa only [Rep] using h
  | .str b, v, _, h => by simpa only [Rep] using h
  | .list ds, v, q, h => by simp [DL.imm] at q
  | .tuple ds, v, q, h => by
    simp only [Rep] at h ⊢
    obtain ⟨a, vs, rfl, ha, r⟩ := h
    exact ⟨a, vs, rfl, ha, RepL.imm (by simpa [DL.imm] using q) r⟩
  | .dict _, v, q, h => by simp [DL.imm] at q
theorem RepL.imm {O O' : Addr → Prop} {H : Hp} : ∀ {ds : List D} {vs : List V}, immL ds = true → RepL O H ds vs → RepL O' H ds vs
  | [], vs, _, h => by simpa only [RepL] using h
  | d :: ds, vs, q, h => by
    simp only [RepL] at h ⊢
    obtain ⟨v, us, rfl, r1, r⟩ := h
    have q' : DL.imm d = true ∧ immL ds = true := by simpa [immL] using q
    exact ⟨v, us, rfl, Rep.imm q'.1 r1, RepL.imm q'.2 r⟩
end
end DL

namespace DL
open PySem PySem.Spec
open PyProof.Rows hiding St
open L2
/-! ## environments of data -/
inductive Sl where
  | nil | dat (d : D) | own (ds : List D) | bag (ds : List D) | raw (v : V)
abbrev Rho := List Sl
structure Base where
  H0 : Hp
  O0 : Addr → Prop
  R : Addr → Prop
def SlOk (B : Base) (O : Addr → Prop) (H : Hp) : Sl → Option (Option V) → Prop
  | .nil, _ => True
  | .dat d, o => ∃ v, o = some (some v) ∧ Rep O H d v
  | .own ds, o => ∃ a vs, o = some (some (.ref a)) ∧ O a ∧ ¬ B.O0 a ∧ B.H0 a = none ∧ H a = some (.lst vs) ∧ RepL O H ds vs
  | .bag ds, o => ∃ a vs, o = some (some (.ref a)) ∧ B.R a ∧ O a ∧ H a = some (.lst vs) ∧ RepL O H ds vs
  | .raw v, o => o = some (some v)
def isOwn : Sl → Bool
  | .own _ => true
  | .bag _ => true
  | _ => false
def Wof (σ : St) (ρ : Rho) (b : Addr) : Prop := ∃ (i : Nat) (s : Sl), ρ[i]? = some s ∧ isOwn s = true ∧ σ[i]? = some (some (.ref b))
structure Good (B : Base) (O : Addr → Prop) (σ : St) (H : Hp) (ρ : Rho) : Prop where
  len : σ.length = ρ.length
  frame : ∀ b o, B.H0 b = some o → ¬ B.R b → H b = some o
  o0 : ∀ b, B.O0 b → B.H0 b ≠ none
  r0 : ∀ b, B.R b → B.O0 b
  osub : ∀ b, B.O0 b → O b
  otrk : ∀ b, O b → H b ≠ none
  h0 : ∀ b, B.H0 b ≠ none → H b ≠ none
  slots : ∀ (i : Nat) s, ρ[i]? = some s → SlOk B O H s σ[i]?
  sep : ∀ (i j : Nat) s t b, ρ[i]? = some s → ρ[j]? = some t → isOwn s = true → isOwn t = true → σ[i]? = some (some (.ref b)) → σ[j]? = some (some (.ref b)) → i = j
def Otr (O : Addr → Prop) (H : Hp) : Prop := ∀ b, O b → H b ≠ none
theorem some_ne {H : Hp} {b : Addr} {o : HO} (h : H b = some o) : H b ≠ none := by rw [h]; exact fun z => nomatch z
theorem _root_.L2.Same.ne {H H' : Hp} (s : Same H H') {b : Addr} (h : H b ≠ none) : H' b ≠ none := by
  cases e : H b with
  | none => exact absurd e h
  | some o => exact some_ne (s b o e)
theorem Otr.same {O : Addr → Prop} {H H' : Hp} (t : Otr O H) (s : Same H H') : Otr O H' := fun b h => s.ne (t b h)
section
variable {B : Base} {O : Addr → Prop} {σ : St} {H H' : Hp} {ρ : Rho}
theorem SlOk.mv {O' : Addr → Prop} {s : Sl} {o : Option (Option V)} (m : Mv O H O' H') (hs : isOwn s = false) (h : SlOk B O H s o) : SlOk B O' H' s o := by
  cases s with
  | nil => trivial
  | dat d => obtain ⟨v, e, r⟩ := h; exact ⟨v, e, Rep.mv m d v r⟩
  | own ds => cases hs
  | bag ds => cases hs
  | raw v => exact h
theorem SlOk.same {s : Sl} {o : Option (Option V)} (m : Same H H') (h : SlOk B O H s o) : SlOk B O H' s o := by
  cases s with
  | nil => trivial
  | dat d => obtain ⟨v, e, r⟩ := h; exact ⟨v, e, r.same m⟩
  | own ds => obtain ⟨a, vs, e, h1, h2, h3, h4, r⟩ := h; exact ⟨a, vs, e, h1, h2, h3, m a _ h4, r.same m⟩
  | bag ds => obtain ⟨a, vs, e, h1, h2, h4, r⟩ := h; exact ⟨a, vs, e, h1, h2, m a _ h4, r.same m⟩
  | raw v => exact h
theorem Good.same (g : Good B O σ H ρ) (s : Same H H') : Good B O σ H' ρ :=
  ⟨g.len, fun b o e n => s b o (g.frame b o e n), g.o0, g.r0, g.osub, fun b h => s.ne (g.otrk b h), fun b h => s.ne (g.h0 b h), fun i t e => (g.slots i t e).same s, g.sep⟩
theorem Good.fresh (g : Good B O σ H ρ) {p : Addr} (hp : H p = none) : ¬ O p ∧ ¬ B.O0 p ∧ B.H0 p = none :=
  ⟨fun z => g.otrk p z hp, fun z => g.otrk p (g.osub p z) hp, by
    cases e : B.H0 p with
    | none => rfl
    | some o => exact absurd hp (g.h0 p (some_ne e))⟩
theorem Good.wof (g : Good B O σ H ρ) {b : Addr} (h : Wof σ ρ b) : O b ∧ ∃ vs, H b = some (.lst vs) := by
  obtain ⟨i, s, e1, e2, e3⟩ := h
  have k := g.slots i s e1
  cases s with
  | nil => cases e2
  | dat d => cases e2
  | own ds =>
    obtain ⟨a, vs, e, h1, _, _, h4, _⟩ := k
    rw [e3] at e; cases e
    exact ⟨h1, vs, h4⟩
  | bag ds =>
    obtain ⟨a, vs, e, _, h1, h4, _⟩ := k
    rw [e3] at e; cases e
    exact ⟨h1, vs, h4⟩
  | raw v => cases e2
end
/-! ## what an expression may change -/
structure Keep (W : Addr → Prop) (H H' : Hp) : Prop where
  keep : ∀ b o, H b = some o → ¬ W b → H' b = some o
  lst : ∀ b vs, H b = some (.lst vs) → ∃ vs', H' b = some (.lst vs')
theorem Keep.of {W : Addr → Prop} {H H' : Hp} (s : Same H H') : Keep W H H' := ⟨fun b o e _ => s b o e, fun b vs e => ⟨vs, s b _ e⟩⟩
theorem Keep.trans {W W' : Addr → Prop} {H H1 H2 : Hp} (a : Keep W H H1) (b : Keep W' H1 H2) (w : ∀ b, W' b → W b ∨ H b = none) : Keep W H H2 :=
  ⟨fun c o e n => b.keep c o (a.keep c o e n) (fun z => by
    rcases w c z with z | z
    · exact n z
    · rw [e] at z
      cases z), fun c vs e => by
    obtain ⟨vs1, e1⟩ := a.lst c vs e
    exact b.lst c vs1 e1⟩
theorem Keep.ne {W : Addr → Prop} {H H' : Hp} (k : Keep W H H') (hw : ∀ b, W b → ∃ vs, H b = some (.lst vs)) {b : Addr} (h : H b ≠ none) : H' b ≠ none := by
  cases e : H b with
  | none => exact absurd e h
  | some o =>
    by_cases q : W b
    · obtain ⟨vs, e1⟩ := hw b q
      obtain ⟨vs', e2⟩ := k.lst b vs e1
      exact some_ne e2
    · exact some_ne (k.keep b o e q)
section
variable {B : Base} {O O' : Addr → Prop} {σ : St} {H H' : Hp} {ρ ρ' : Rho}
theorem Good.mv (g : Good B O σ H ρ) (k : Keep (Wof σ ρ) H H') (ho : ∀ b, O' b → O b ∨ H b = none) : Mv O H O' H' :=
  ⟨fun b o e q => k.keep b o e (fun z => by
    obtain ⟨h1, vs, h2⟩ := g.wof z
    rcases q with q | q
    · rw [e] at h2; cases h2; exact q vs rfl
    · exact q h1), ho⟩
theorem Good.rep (g : Good B O σ H ρ) (k : Keep (Wof σ ρ) H H') {d : D} {v : V} (h : Rep O H d v) : Rep O H' d v := Rep.mv (g.mv k fun _ h => .inl h) d v h
theorem Good.repL (g : Good B O σ H ρ) (k : Keep (Wof σ ρ) H H') {ds : List D} {vs : List V} (h : RepL O H ds vs) : RepL O H' ds vs := RepL.mv (g.mv k fun _ h => .inl h) ds vs h
end
inductive Md where | str | bas
def Md.O (m : Md) (B : Base) (O : Addr → Prop) : Addr → Prop := match m with | .str => O | .bas => B.O0
theorem Good.mO {B : Base} {O : Addr → Prop} {σ : St} {H : Hp} {ρ : Rho} (g : Good B O σ H ρ) (m : Md) : ∀ b, m.O B O b → O b := by
  cases m with
  | str => exact fun _ h => h
  | bas => exact g.osub
theorem Good.otr {B : Base} {O : Addr → Prop} {σ : St} {H : Hp} {ρ : Rho} (g : Good B O σ H ρ) (m : Md) : Otr (m.O B O) H := fun b h => g.otrk b (g.mO m b h)
/-! ## judgements -/
def tP (B : Base) (m : Md) (g : Rho → Option D) : TE := fun σ H Q => ∃ O ρ d, Good B O σ H ρ ∧ g ρ = some d ∧ ∀ v H', Same H H' → Rep (m.O B O) H' d v → Q v H'
def tPA (B : Base) (m : Md) (g : Rho → Option (List D)) : TA := fun σ H Q => ∃ O ρ ds, Good B O σ H ρ ∧ g ρ = some ds ∧ ∀ vs H', Same H H' → RepL (m.O B O) H' ds vs → Q vs H'
def tPT (B : Base) (g : Rho → Option Bool) : TT := fun σ H Q => ∃ O ρ c, Good B O σ H ρ ∧ g ρ = some c ∧ ∀ H', Same H H' → Q c H'
structure Ext (B : Base) (O : Addr → Prop) (σ : St) (H : Hp) (ρ : Rho) (H' : Hp) (ρ' : Rho) : Prop where
  keep : Keep (Wof σ ρ) H H'
  w : ∀ b, Wof σ ρ' b → Wof σ ρ b
  good : Good B O σ H' ρ'
def tE (B : Base) (f : Rho → Option (D × Rho)) : TE := fun σ H Q => ∃ O ρ d ρ', Good B O σ H ρ ∧ f ρ = some (d, ρ') ∧ ∀ v H', Ext B O σ H ρ H' ρ' → Rep O H' d v → Q v H'
def tEA (B : Base) (f : Rho → Option (List D × Rho)) : TA := fun σ H Q => ∃ O ρ ds ρ', Good B O σ H ρ ∧ f ρ = some (ds, ρ') ∧ ∀ vs H', Ext B O σ H ρ H' ρ' → RepL O H' ds vs → Q vs H'
def tET (B : Base) (f : Rho → Option (Bool × Rho)) : TT := fun σ H Q => ∃ O ρ c ρ', Good B O σ H ρ ∧ f ρ = some (c, ρ') ∧ ∀ H', Ext B O σ H ρ H' ρ' → Q c H'
structure DP (X : Cx) (B : Base) (m : Md) (e : Expr) (g : Rho → Option D) : Prop where
  pe : PE X e (tP B m g)
structure DPA (X : Cx) (B : Base) (m : Md) (es : List Expr) (g : Rho → Option (List D)) : Prop where
  pa : PA X es (tPA B m g)
structure DPT (X : Cx) (B : Base) (e : Expr) (g : Rho → Option Bool) : Prop where
  pt : PT X e (tPT B g)
structure DE (X : Cx) (B : Base) (e : Expr) (f : Rho → Option (D × Rho)) : Prop where
  pe : PE X e (tE B f)
structure DEA (X : Cx) (B : Base) (es : List Expr) (f : Rho → Option (List D × Rho)) : Prop where
  pa : PA X es (tEA B f)
structure DET (X : Cx) (B : Base) (e : Expr) (f : Rho → Option (Bool × Rho)) : Prop where
  pt : PT X e (tET B f)
theorem Ext.of {B : Base} {O : Addr → Prop} {σ : St} {H H' : Hp} {ρ : Rho} (g : Good B O σ H ρ) (s : Same H H') : Ext B O σ H ρ H' ρ := ⟨.of s, fun _ h => h, g.same s⟩
theorem Ext.trans {B : Base} {O : Addr → Prop} {σ : St} {H H1 H2 : Hp} {ρ ρ1 ρ2 : Rho} (a : Ext B O σ H ρ H1 ρ1) (b : Ext B O σ H1 ρ1 H2 ρ2) : Ext B O σ H ρ H2 ρ2 :=
  ⟨a.keep.trans b.keep fun c h => .inl (a.w c h), fun c h => a.w c (b.w c h), b.good⟩
theorem Ext.samr {B : Base} {O : Addr → Prop} {σ : St} {H H1 H2 : Hp} {ρ ρ1 : Rho} (a : Ext B O σ H ρ H1 ρ1) (s : Same H1 H2) : Ext B O σ H ρ H2 ρ1 := a.trans (.of a.good s)
section
variable {X : Cx}
theorem _root_.L2.PE.imp {e : Expr} {t t' : TE} (h : PE X e t) (i : ∀ σ H Q, t' σ H Q → t σ H Q) : PE X e t' := ⟨fun pins s σ H Q I q => h.run pins s σ H Q I (i σ H Q q)⟩
theorem _root_.L2.PT.imp {e : Expr} {t t' : TT} (h : PT X e t) (i : ∀ σ H Q, t' σ H Q → t σ H Q) : PT X e t' := ⟨fun pins s σ H Q I q => h.run pins s σ H Q I (i σ H Q q)⟩
theorem _root_.L2.PW.imp {e : Expr} {t t' : TT} (h : PW X e t) (i : ∀ σ H Q, t' σ H Q → t σ H Q) : PW X e t' := ⟨fun wh pins s σ H Q I q => h.run wh pins s σ H Q I (i σ H Q q)⟩
theorem _root_.L2.PA.imp {e : List Expr} {t t' : TA} (h : PA X e t) (i : ∀ σ H Q, t' σ H Q → t σ H Q) : PA X e t' := ⟨fun pos pins s σ H Q I q => h.run pos pins s σ H Q I (i σ H Q q)⟩
theorem _root_.L2.PS.imp {e : Stmt} {t t' : TS} (h : PS X e t) (i : ∀ Dn σ H, t' Dn σ H → t Dn σ H) : PS X e t' := ⟨fun pins s σ H Q I q => h.run pins s σ H Q I (i Q σ H q)⟩
theorem _root_.L2.PSs.imp {e : List Stmt} {t t' : TS} (h : PSs X e t) (i : ∀ Dn σ H, t' Dn σ H → t Dn σ H) : PSs X e t' := ⟨fun pins s σ H Q I q => h.run pins s σ H Q I (i Q σ H q)⟩
end
/-! ## data functions -/
@[simp] def asBool : D → Option Bool
  | .bool b => some b
  | _ => none
@[simp] def asInt : D → Option Int
  | .int b => some b
  | _ => none
@[simp] def kD (d : D) : Rho → Option D := fun _ => some d
@[simp] def varD (m : Md) (i : Nat) : Rho → Option D := fun ρ => match ρ[i]? with
  | some (.dat d) => some d
  | some (.own ds) => (match m with | .bas => some (.list ds) | .str => none)
  | _ => none
@[simp] def b1D (g : Rho → Option D) (f : D → Option D) : Rho → Option D := fun ρ => (g ρ).bind f
@[simp] def b2D (ga gb : Rho → Option D) (f : D → D → Option D) : Rho → Option D := fun ρ => (ga ρ).bind fun d => (gb ρ).bind fun e => f d e
@[simp] def immD (d : D) : Option D := if imm d = true then some d else none
@[simp] def toE (g : Rho → Option D) : Rho → Option (D × Rho) := fun ρ => (g ρ).bind fun d => some (d, ρ)
@[simp] def b2E (fa fb : Rho → Option (D × Rho)) (f : D → D → Option D) : Rho → Option (D × Rho) := fun ρ => (fa ρ).bind fun p => (fb p.2).bind fun q => (f p.1 q.1).bind fun z => some (z, q.2)
@[simp] def b1E (fa : Rho → Option (D × Rho)) (f : D → Option D) : Rho → Option (D × Rho) := fun ρ => (fa ρ).bind fun p => (f p.1).bind fun z => some (z, p.2)
/-- an operation by values serves an operation on data -/
def Op2 (r : R2) (f : D → D → Option D) : Prop := ∀ O H d e z x y Q, Otr O H → f d e = some z → Rep O H d x → Rep O H e y → (∀ v H', Same H H' → Rep O H' z v → Q v H') → r x y H Q
def Op1 (r : V → Hp → VK → Prop) (f : D → Option D) : Prop := ∀ O H d z x Q, Otr O H → f d = some z → Rep O H d x → (∀ v H', Same H H' → Rep O H' z v → Q v H') → r x H Q
def OpN (r : List V → Hp → VK → Prop) (f : List D → Option D) : Prop := ∀ O H ds z xs Q, Otr O H → f ds = some z → RepL O H ds xs → (∀ v H', Same H H' → Rep O H' z v → Q v H') → r xs H Q
theorem bind_some {α β : Type} {a : Option α} {f : α → Option β} {b : β} (h : a.bind f = some b) : ∃ x, a = some x ∧ f x = some b := by
  cases a with
  | none => cases h
  | some x => exact ⟨x, rfl, h⟩
section
variable {X : Cx} {B : Base} {m : Md} {a b e : Expr} {ga gb g : Rho → Option D} {fa fb f : Rho → Option (D × Rho)} {pos : Pos}
/-! ## plain expressions -/
theorem dp_int {i : Int} {j} : DP X B m (.Constant (.int i) j pos) (kD (.int i)) := ⟨pe_int.imp fun σ H Q ⟨O, ρ, d, g, e, q⟩ => by
  cases e
  exact q _ _ (Same.refl _) (by simp only [Rep])⟩
theorem dp_bool {b : Bool} {j} : DP X B m (.Constant (.bool b) j pos) (kD (.bool b)) := ⟨pe_bl.imp fun σ H Q ⟨O, ρ, d, g, e, q⟩ => by
  cases e
  exact q _ _ (Same.refl _) (by simp only [Rep])⟩
theorem dp_none {j} : DP X B m (.Constant .none j pos) (kD .none) := ⟨pe_non.imp fun σ H Q ⟨O, ρ, d, g, e, q⟩ => by
  cases e
  exact q _ _ (Same.refl _) (by simp only [Rep])⟩
theorem dp_str {x : Str} {j} : DP X B m (.Constant (.str x) j pos) (kD (.str x)) := ⟨pe_str.imp fun σ H Q ⟨O, ρ, d, g, e, q⟩ => by
  cases e
  exact q _ _ (Same.refl _) (by simp only [Rep])⟩
theorem dp_var (i : Nat) {x : Str} (hN : X.N[i]? = some x := by rfl) (hv : Vis X.env.scope x := by first | exact Or.inl rfl | exact Or.inr (Or.inl rfl) | exact Or.inr (Or.inr rfl)) (hd : (x == ("__debug__" : Str)) = false := by decide)
    (hcd : (x == ("__classdict__" : Str)) = false := by decide) : DP X B m (.Name x pos) (varD m i) := ⟨(pv i hN hv hd hcd).imp fun σ H Q ⟨O, ρ, d, g, e, q⟩ => by
  unfold varD at e
  split at e
  · next d' e1 =>
    cases e
    obtain ⟨v, e2, r⟩ := g.slots _ _ e1
    exact ⟨v, e2, q _ _ (Same.refl _) (r.less (g.mO m))⟩
  · next ds e1 =>
    cases m with
    | str => cases e
    | bas =>
      cases e
      obtain ⟨p, vs, e2, h1, h2, h3, h4, r⟩ := g.slots _ _ e1
      refine ⟨_, e2, q _ _ (Same.refl _) ?_⟩
      simp only [Rep]
      exact ⟨p, vs, rfl, h2, h4, r.less g.osub⟩
  · cases e⟩
theorem dp_glob {x : Str} {i : Int} {u : Value} (hm : X.mg x = some u) (r : RelV (.int i) u) (hg : Gl X x := by rfl) (hd : (x == ("__debug__" : Str)) = false := by decide) : DP X B m (.Name x pos) (kD (.int i)) :=
  ⟨(pe_glob hg hm r hd).imp fun σ H Q ⟨O, ρ, d, g, e, q⟩ => by
    cases e
    exact q _ _ (Same.refl _) (by simp only [Rep])⟩
theorem dp_imm (h : DP X B .bas e g) : DP X B .str e (b1D g immD) := ⟨h.pe.imp fun σ H Q ⟨O, ρ, d, gd, e, q⟩ => by
  obtain ⟨d', e1, e2⟩ := bind_some e
  unfold immD at e2
  split at e2
  · next hi =>
    cases e2
    exact ⟨O, ρ, _, gd, e1, fun v H' s r => q v H' s (r.imm hi)⟩
  · cases e2⟩
theorem dp_bin2 {r : R2} {f : D → D → Option D} {t : TE → TE → TE} (ht : ∀ {ta tb : TE}, PE X a ta → PE X b tb → PE X e (fun σ H Q => ta σ H fun x H1 => tb σ H1 fun y H2 => r x y H2 Q)) (hf : Op2 r f) (ha : DP X B m a ga) (hb : DP X B m b gb) :
    DP X B m e (b2D ga gb f) := ⟨(ht ha.pe hb.pe).imp fun σ H Q ⟨O, ρ, d, gd, e, q⟩ => by
  obtain ⟨d1, e1, e'⟩ := bind_some e
  obtain ⟨d2, e2, e3⟩ := bind_some e'
  refine ⟨O, ρ, d1, gd, e1, fun v H1 s1 r1 => ⟨O, ρ, d2, gd.same s1, e2, fun w H2 s2 r2 => ?_⟩⟩
  exact hf _ H2 d1 d2 d v w Q ((gd.same (s1.trans s2)).otr m) e3 (r1.same s2) r2 fun u H3 s3 r3 => q u H3 ((s1.trans s2).trans s3) r3⟩
theorem dp_op {op : Operator} {r : R2} {f : D → D → Option D} (ho : OpR X (binaryOp op) r) (hf : Op2 r f) (ha : DP X B m a ga) (hb : DP X B m b gb) : DP X B m (.BinOp a op b pos) (b2D ga gb f) :=
  dp_bin2 (t := tOp r) (fun ha hb => pe_op ho ha hb) hf ha hb
theorem dp_cmp {op : CmpOp} {r : R2} {f : D → D → Option D} (ho : OpR X (compareOp op) r) (hf : Op2 r f) (ha : DP X B m a ga) (hb : DP X B m b gb) (hm : behindInMarks op b = false) : DP X B m (.Compare a [op] [b] pos) (b2D ga gb f) :=
  dp_bin2 (t := tOp r) (fun ha hb => pe_cmpR ho ha hb hm) hf ha hb
theorem dp_ix {r : R2} {f : D → D → Option D} (ho : IxR X r) (hf : Op2 r f) (ha : DP X B m a ga) (hb : DP X B m b gb) (hs : PlainIx b := by exact fun _ _ => rfl) : DP X B m (.Subscript a b pos) (b2D ga gb f) :=
  dp_bin2 (t := tOp r) (fun ha hb => pe_ix ho ha hb hs) hf ha hb
theorem dp_un {op : UnaryOp} {r : V → Hp → VK → Prop} {f : D → Option D} (ho : UnR X (unaryOp op) r) (hf : Op1 r f) (ha : DP X B m a ga) : DP X B m (.UnaryOp op a pos) (b1D ga f) := ⟨(pe_un ho ha.pe).imp fun σ H Q ⟨O, ρ, d, gd, e, q⟩ => by
  obtain ⟨d1, e1, e3⟩ := bind_some e
  refine ⟨O, ρ, d1, gd, e1, fun v H1 s1 r1 => ?_⟩
  exact hf _ H1 d1 d v Q ((gd.same s1).otr m) e3 r1 fun u H3 s3 r3 => q u H3 (s1.trans s3) r3⟩
/-! ## expressions that draw -/
theorem de_of (h : DP X B .str e g) : DE X B e (toE g) := ⟨h.pe.imp fun σ H Q ⟨O, ρ, d, ρ', gd, e, q⟩ => by
  obtain ⟨d1, e1, e3⟩ := bind_some e
  cases e3
  exact ⟨O, ρ, _, gd, e1, fun v H1 s1 r1 => q v H1 (.of gd s1) r1⟩⟩
theorem de_bin2 {r : R2} {f : D → D → Option D} (ht : ∀ {ta tb : TE}, PE X a ta → PE X b tb → PE X e (fun σ H Q => ta σ H fun x H1 => tb σ H1 fun y H2 => r x y H2 Q)) (hf : Op2 r f) (ha : DE X B a fa) (hb : DE X B b fb) :
    DE X B e (b2E fa fb f) := ⟨(ht ha.pe hb.pe).imp fun σ H Q ⟨O, ρ, d, ρ', gd, e, q⟩ => by
  obtain ⟨⟨d1, ρ1⟩, e1, e'⟩ := bind_some e
  obtain ⟨⟨d2, ρ2⟩, e2, e''⟩ := bind_some e'
  obtain ⟨z, e3, e4⟩ := bind_some e''
  cases e4
  refine ⟨O, ρ, d1, ρ1, gd, e1, fun v H1 s1 r1 => ⟨O, ρ1, d2, ρ2, s1.good, e2, fun w H2 s2 r2 => ?_⟩⟩
  exact hf _ H2 d1 d2 d v w Q (s2.good.otr .str) e3 (s1.good.rep s2.keep r1) r2 fun u H3 s3 r3 => q u H3 ((s1.trans s2).samr s3) r3⟩
theorem de_op {op : Operator} {r : R2} {f : D → D → Option D} (ho : OpR X (binaryOp op) r) (hf : Op2 r f) (ha : DE X B a fa) (hb : DE X B b fb) : DE X B (.BinOp a op b pos) (b2E fa fb f) :=
  de_bin2 (fun ha hb => pe_op ho ha hb) hf ha hb
theorem de_cmp {op : CmpOp} {r : R2} {f : D → D → Option D} (ho : OpR X (compareOp op) r) (hf : Op2 r f) (ha : DE X B a fa) (hb : DE X B b fb) (hm : behindInMarks op b = false) : DE X B (.Compare a [op] [b] pos) (b2E fa fb f) :=
  de_bin2 (fun ha hb => pe_cmpR ho ha hb hm) hf ha hb
theorem de_ix {r : R2} {f : D → D → Option D} (ho : IxR X r) (hf : Op2 r f) (ha : DE X B a fa) (hb : DE X B b fb) (hs : PlainIx b := by exact fun _ _ => rfl) : DE X B (.Subscript a b pos) (b2E fa fb f) :=
  de_bin2 (fun ha hb => pe_ix ho ha hb hs) hf ha hb
theorem de_un {op : UnaryOp} {r : V → Hp → VK → Prop} {f : D → Option D} (ho : UnR X (unaryOp op) r) (hf : Op1 r f) (ha : DE X B a fa) : DE X B (.UnaryOp op a pos) (b1E fa f) := ⟨(pe_un ho ha.pe).imp fun σ H Q ⟨O, ρ, d, ρ', gd, e, q⟩ => by
  obtain ⟨⟨d1, ρ1⟩, e1, e'⟩ := bind_some e
  obtain ⟨z, e3, e4⟩ := bind_some e'
  cases e4
  refine ⟨O, ρ, d1, ρ1, gd, e1, fun v H1 s1 r1 => ?_⟩
  exact hf _ H1 d1 d v Q (s1.good.otr .str) e3 r1 fun u H3 s3 r3 => q u H3 (s1.samr s3) r3⟩
end
end DL

namespace DL
open PySem PySem.Spec
open PyProof.Rows hiding St
open L2
/-! ## operators on data -/
@[simp] def addD : D → D → Option D
  | .int i, .int j => some (.int (i + j))
  | .tuple xs, .tuple ys => if xs.length + ys.length ≤ 100000 then some (.tuple (xs ++ ys)) else none
  | .list xs, .list ys => if xs.length + ys.length ≤ 100000 then some (.list (xs ++ ys)) else none
  | _, _ => none
@[simp] def subD : D → D → Option D
  | .int i, .int j => some (.int (i - j))
  | _, _ => none
@[simp] def mulD : D → D → Option D
  | .int i, .int j => if (-18446744073709551616 < i ∧ i < 18446744073709551616) ∨ (-18446744073709551616 < j ∧ j < 18446744073709551616) then some (.int (i * j)) else none
  | _, _ => none
@[simp] def fdivD : D → D → Option D
  | .int i, .int j => if 0 < j ∧ j < 18446744073709551616 then some (.int (i / j)) else none
  | _, _ => none
@[simp] def modD : D → D → Option D
  | .int i, .int j => if 0 < j then some (.int (i % j)) else none
  | _, _ => none
@[simp] def powD : D → D → Option D
  | .int i, .int j => if 0 ≤ j ∧ j ≤ 1000000 ∧ i.natAbs < 18446744073709551616 then some (.int (i ^ j.toNat)) else none
  | _, _ => none
@[simp] def cmpD (p : Int → Int → Bool) : D → D → Option D
  | .int i, .int j => some (.bool (p i j))
  | _, _ => none
abbrev ltD := cmpD fun i j => decide (i < j)
abbrev leD := cmpD fun i j => decide (i ≤ j)
abbrev gtD := cmpD fun i j => decide (j < i)
abbrev geD := cmpD fun i j => decide (j ≤ i)
@[simp] def eqD (d e : D) : Option D := if SeqAt.shaped d = true ∧ SeqAt.shaped e = true then some (.bool (PyData.eqv d e)) else none
@[simp] def neD (d e : D) : Option D := if SeqAt.shaped d = true ∧ SeqAt.shaped e = true then some (.bool (!PyData.eqv d e)) else none
@[simp] def isNone : D → Bool
  | .none => true
  | _ => false
@[simp] def isND : D → D → Option D
  | d, .none => some (.bool (isNone d))
  | _, _ => none
@[simp] def notND : D → D → Option D
  | d, .none => some (.bool (!isNone d))
  | _, _ => none
@[simp] def isBD : D → D → Option D
  | .bool a, .bool b => some (.bool (decide (a = b)))
  | _, _ => none
@[simp] def notBD : D → D → Option D
  | .bool a, .bool b => some (.bool (!decide (a = b)))
  | _, _ => none
@[simp] def negD : D → Option D
  | .int i => some (.int (-i))
  | _ => none
@[simp] def ixD : D → D → Option D
  | .tuple xs, .int i => atI xs i
  | .list xs, .int i => atI xs i
  | _, _ => none
theorem line_le {n : Nat} (h : n ≤ 100000) : n ≤ sizeLine := by rw [sizeLine_eq]; omega
theorem rep_upd {O : Addr → Prop} {H : Hp} {ds : List D} {vs : List V} {p : Addr} {o : HO} (hp : H p = none) (r : RepL O H ds vs) : RepL O (upd H p o) ds vs :=
  r.same fun b u e => by rw [upd_ne (ne_of_none e hp)]; exact e
theorem same_upd {H : Hp} {p : Addr} {o : HO} (hp : H p = none) : Same H (upd H p o) := fun b u e => by rw [upd_ne (ne_of_none e hp)]; exact e
theorem rep_tup {O : Addr → Prop} {H : Hp} {ds : List D} {vs : List V} {p : Addr} (hp : H p = none) (r : RepL O H ds vs) : Rep O (upd H p (.tup vs)) (.tuple ds) (.ref p) := by
  simp only [Rep]
  exact ⟨p, vs, rfl, upd_same, rep_upd hp r⟩
theorem rep_lst {O : Addr → Prop} {H : Hp} {ds : List D} {vs : List V} {p : Addr} (t : Otr O H) (hp : H p = none) (r : RepL O H ds vs) : Rep O (upd H p (.lst vs)) (.list ds) (.ref p) := by
  simp only [Rep]
  exact ⟨p, vs, rfl, fun z => t p z hp, upd_same, rep_upd hp r⟩
theorem rep_int {O : Addr → Prop} {H : Hp} {i : Int} {v : V} : Rep O H (.int i) v ↔ v = .int i := by simp only [Rep]
theorem rep_bool {O : Addr → Prop} {H : Hp} {i : Bool} {v : V} : Rep O H (.bool i) v ↔ v = .bl i := by simp only [Rep]
theorem rep_none {O : Addr → Prop} {H : Hp} {v : V} : Rep O H .none v ↔ v = .non := by simp only [Rep]
theorem rep_str {O : Addr → Prop} {H : Hp} {x : Str} {v : V} : Rep O H (.str x) v ↔ v = .str x := by simp only [Rep]
theorem o2_int {C : Int → Int → Prop} {g : Int → Int → V} {f : D → D → Option D} (h : ∀ d e z, f d e = some z → ∃ i j, d = .int i ∧ e = .int j ∧ C i j ∧ ∀ O H, Rep O H z (g i j)) : Op2 (rI C g) f := by
  intro O H d e z x y Q t hf rx ry q
  obtain ⟨i, j, rfl, rfl, c, r⟩ := h d e z hf
  exact ⟨i, j, rep_int.mp rx, rep_int.mp ry, c, q _ H (Same.refl H) (r O H)⟩
theorem o2_int0 {g : Int → Int → V} {f : D → D → Option D} (h : ∀ d e z, f d e = some z → ∃ i j, d = .int i ∧ e = .int j ∧ ∀ O H, Rep O H z (g i j)) : Op2 (rI0 g) f := by
  intro O H d e z x y Q t hf rx ry q
  obtain ⟨i, j, rfl, rfl, r⟩ := h d e z hf
  exact ⟨i, j, rep_int.mp rx, rep_int.mp ry, q _ H (Same.refl H) (r O H)⟩
section
variable {X : Cx}
abbrev rAddA (K : PySem.W.Frag) : R2 := fun x y H Q => rI0 (fun i j => .int (i + j)) x y H Q ∨ (rCatA K x y H Q ∨ rCat x y H Q)
theorem op_addA : OpR X (binaryOp .Add) (rAddA X.K) := op_add.or (op_catA.or op_cat)
theorem o_add {K : PySem.W.Frag} : Op2 (rAddA K) addD := by
  intro O H d e z x y Q t hf rx ry q
  unfold addD at hf
  split at hf
  · cases hf
    exact .inl ⟨_, _, rep_int.mp rx, rep_int.mp ry, q _ H (Same.refl H) (rep_int.mpr rfl)⟩
  · split at hf
    · next hl =>
      cases hf
      simp only [Rep] at rx ry
      obtain ⟨a, vs, rfl, ha, r1⟩ := rx
      obtain ⟨b, ws, rfl, hb, r2⟩ := ry
      refine .inr (.inl ⟨a, b, vs, ws, rfl, rfl, .of ha, .of hb, line_le (by rw [← r1.length, ← r2.length]; exact hl), fun e => ?_, fun _ e => ?_, fun _ _ p hp => ?_⟩)
      · subst e
        have := r1.length
        simp at this; subst this
        exact q _ H (Same.refl H) (by simp only [Rep, List.nil_append]; exact ⟨b, ws, rfl, hb, r2⟩)
      · subst e
        have := r2.length
        simp at this; subst this
        exact q _ H (Same.refl H) (by simp only [Rep, List.append_nil]; exact ⟨a, vs, rfl, ha, r1⟩)
      · exact q _ _ (same_upd hp) (rep_tup hp (r1.append r2))
    · cases hf
  · split at hf
    · next hl =>
      cases hf
      simp only [Rep] at rx ry
      obtain ⟨a, vs, rfl, _, ha, r1⟩ := rx
      obtain ⟨b, ws, rfl, _, hb, r2⟩ := ry
      refine .inr (.inr ⟨a, b, vs, ws, rfl, rfl, ha, hb, line_le (by rw [← r1.length, ← r2.length]; exact hl), fun p hp => ?_⟩)
      exact q _ _ (same_upd hp) (rep_lst t hp (r1.append r2))
    · cases hf
  · cases hf
theorem o_sub : Op2 (rI0 fun i j => .int (i - j)) subD := o2_int0 fun d e z h => by
  unfold subD at h
  split at h
  · cases h; exact ⟨_, _, rfl, rfl, fun _ _ => rep_int.mpr rfl⟩
  · cases h
theorem o_mul : Op2 (rI CMul fun i j => .int (i * j)) mulD := o2_int fun d e z h => by
  unfold mulD at h
  split at h
  · split at h
    · next hc => cases h; exact ⟨_, _, rfl, rfl, hc, fun _ _ => rep_int.mpr rfl⟩
    · cases h
  · cases h
theorem o_fdiv : Op2 (rI CDivW fun i j => .int (i / j)) fdivD := o2_int fun d e z h => by
  unfold fdivD at h
  split at h
  · split at h
    · next hc => cases h; exact ⟨_, _, rfl, rfl, wide_div (b := 64) hc.1 (by omega) (by decide) (by decide), fun _ _ => rep_int.mpr rfl⟩
    · cases h
  · cases h
theorem o_mod : Op2 (rI (fun _ j => 0 < j) fun i j => .int (i % j)) modD := o2_int fun d e z h => by
  unfold modD at h
  split at h
  · split at h
    · next hc => cases h; exact ⟨_, _, rfl, rfl, hc, fun _ _ => rep_int.mpr rfl⟩
    · cases h
  · cases h
theorem o_pow : Op2 (rI CPow fun i j => .int (i ^ j.toNat)) powD := o2_int fun d e z h => by
  unfold powD at h
  split at h
  · split at h
    · next hc => cases h; exact ⟨_, _, rfl, rfl, hc, fun _ _ => rep_int.mpr rfl⟩
    · cases h
  · cases h
theorem o_cmp {p : Int → Int → Bool} : Op2 (rI0 fun i j => .bl (p i j)) (cmpD p) := o2_int0 fun d e z h => by
  unfold cmpD at h
  split at h
  · cases h; exact ⟨_, _, rfl, rfl, fun _ _ => rep_bool.mpr rfl⟩
  · cases h
theorem o_eq {K : PySem.W.Frag} : Op2 (rEqD K) eqD := by
  intro O H d e z x y Q t hf rx ry q
  unfold eqD at hf
  split at hf
  · next hs => cases hf; exact ⟨d, e, rx.dp, ry.dp, hs.1, hs.2, q _ H (Same.refl H) (rep_bool.mpr rfl)⟩
  · cases hf
theorem o_ne {K : PySem.W.Frag} : Op2 (rNeD K) neD := by
  intro O H d e z x y Q t hf rx ry q
  unfold neD at hf
  split at hf
  · next hs => cases hf; exact ⟨d, e, rx.dp, ry.dp, hs.1, hs.2, q _ H (Same.refl H) (rep_bool.mpr rfl)⟩
  · cases hf
theorem rep_isNone {O : Addr → Prop} {H : Hp} {d : D} {v : V} (h : Rep O H d v) : decide (v = .non) = isNone d := by
  cases d with
  | none => rw [rep_none.mp h]; rfl
  | bool b => rw [rep_bool.mp h]; rfl
  | int b => rw [rep_int.mp h]; rfl
  | str b => rw [rep_str.mp h]; rfl
  | list ds => simp only [Rep] at h; obtain ⟨a, vs, rfl, _⟩ := h; rfl
  | tuple ds => simp only [Rep] at h; obtain ⟨a, vs, rfl, _⟩ := h; rfl
  | dict ds => simp only [Rep] at h
theorem o_isN : Op2 (fun x y H Q => y = .non ∧ Q (.bl (decide (x = .non))) H) isND := by
  intro O H d e z x y Q t hf rx ry q
  unfold isND at hf
  split at hf
  · cases hf
    exact ⟨rep_none.mp ry, q _ H (Same.refl H) (rep_bool.mpr (by rw [rep_isNone rx]))⟩
  · cases hf
theorem o_notN : Op2 (fun x y H Q => y = .non ∧ Q (.bl (!decide (x = .non))) H) notND := by
  intro O H d e z x y Q t hf rx ry q
  unfold notND at hf
  split at hf
  · cases hf
    exact ⟨rep_none.mp ry, q _ H (Same.refl H) (rep_bool.mpr (by rw [rep_isNone rx]))⟩
  · cases hf
theorem o_isB : Op2 rIsB isBD := by
  intro O H d e z x y Q t hf rx ry q
  unfold isBD at hf
  split at hf
  · cases hf
    exact ⟨_, _, rep_bool.mp rx, rep_bool.mp ry, q _ H (Same.refl H) (rep_bool.mpr rfl)⟩
  · cases hf
theorem o_notB : Op2 rNotB notBD := by
  intro O H d e z x y Q t hf rx ry q
  unfold notBD at hf
  split at hf
  · cases hf
    exact ⟨_, _, rep_bool.mp rx, rep_bool.mp ry, q _ H (Same.refl H) (rep_bool.mpr rfl)⟩
  · cases hf
theorem o_neg : Op1 (rU fun i => .int (-i)) negD := by
  intro O H d z x Q t hf rx q
  unfold negD at hf
  split at hf
  · cases hf; exact ⟨_, rep_int.mp rx, q _ H (Same.refl H) (rep_int.mpr rfl)⟩
  · cases hf
theorem atI_rep {O : Addr → Prop} {H : Hp} {ds : List D} {vs : List V} {i : Int} {d : D} (r : RepL O H ds vs) (h : atI ds i = some d) : ∃ v, atI vs i = some v ∧ Rep O H d v := by
  unfold atI at h ⊢
  rw [← r.length]
  obtain ⟨j, e1, e2⟩ := bind_some h
  obtain ⟨v, e3, r3⟩ := r.get e2
  exact ⟨v, by rw [e1]; exact e3, r3⟩
theorem o_ix {K : PySem.W.Frag} : Op2 (rIx K) ixD := by
  intro O H d e z x y Q t hf rx ry q
  unfold ixD at hf
  split at hf
  · simp only [Rep] at rx
    obtain ⟨a, vs, rfl, ha, r⟩ := rx
    obtain ⟨v, e1, r1⟩ := atI_rep r hf
    exact .inr (.inl ⟨a, vs, _, v, rfl, rep_int.mp ry, .of ha, e1, q v H (Same.refl H) r1⟩)
  · simp only [Rep] at rx
    obtain ⟨a, vs, rfl, _, ha, r⟩ := rx
    obtain ⟨v, e1, r1⟩ := atI_rep r hf
    exact .inl ⟨a, vs, _, v, rfl, rep_int.mp ry, .of ha, e1, q v H (Same.refl H) r1⟩
  · cases hf
end
/-! ## arguments, displays, calls -/
@[simp] def nilA : Rho → Option (List D) := fun _ => some []
@[simp] def consA (g : Rho → Option D) (gs : Rho → Option (List D)) : Rho → Option (List D) := fun ρ => (g ρ).bind fun d => (gs ρ).bind fun ds => some (d :: ds)
@[simp] def nilEA : Rho → Option (List D × Rho) := fun ρ => some ([], ρ)
@[simp] def consEA (f : Rho → Option (D × Rho)) (fs : Rho → Option (List D × Rho)) : Rho → Option (List D × Rho) := fun ρ => (f ρ).bind fun p => (fs p.2).bind fun q => some (p.1 :: q.1, q.2)
@[simp] def tupD (ds : List D) : Option D := if ds.length ≤ 100000 then some (.tuple ds) else none
@[simp] def lstD (ds : List D) : Option D := if ds.length ≤ 100000 then some (.list ds) else none
@[simp] def nD (gs : Rho → Option (List D)) (F : List D → Option D) : Rho → Option D := fun ρ => (gs ρ).bind F
@[simp] def nE (fs : Rho → Option (List D × Rho)) (F : List D → Option D) : Rho → Option (D × Rho) := fun ρ => (fs ρ).bind fun p => (F p.1).bind fun z => some (z, p.2)
def spP (F : List D → Option D) : Sp := fun vs H Q _ => ∃ O ds d, Otr O H ∧ RepL O H ds vs ∧ F ds = some d ∧ ∀ v H', Same H H' → Rep O H' d v → Q v H'
structure Fn (P : Program) (w : World) (K : PySem.W.Frag) (mg : Str → Option Value) (base : Heap) (k : Nat) (x : Str) (F : List D → Option D) : Prop where
  ex : ∃ f fd ps, FnOk P w K mg base CX0 k f fd ps (spP F) ∧ mg x = some (.ref f) ∧ PySem.W.keepIn K (.ref f) = true ∧ Binds K fd ps []
def OpNT (r : TA → TE) (F : List D → Option D) (B : Base) (m : Md) : Prop := ∀ gs, ∀ σ H Q, tP B m (nD gs F) σ H Q → r (tPA B m gs) σ H Q
section
variable {X : Cx} {B : Base} {m : Md} {e : Expr} {es : List Expr} {g : Rho → Option D} {gs : Rho → Option (List D)} {f : Rho → Option (D × Rho)} {fs : Rho → Option (List D × Rho)} {pos p : Pos}
theorem dpa_nil : DPA X B m [] nilA := ⟨pa_nil.imp fun σ H Q ⟨O, ρ, ds, gd, e, q⟩ => by
  cases e
  exact q [] H (Same.refl H) .nil⟩
theorem dpa_cons (h : DP X B m e g) (hs : DPA X B m es gs) (hst : starEach (e :: es) X.env = (false, eval e X.env) :: starEach es X.env := by rfl) : DPA X B m (e :: es) (consA g gs) := ⟨(pa_cons h.pe hs.pa hst).imp fun σ H Q ⟨O, ρ, ds, gd, e, q⟩ => by
  obtain ⟨d1, e1, e'⟩ := bind_some e
  obtain ⟨d2, e2, e3⟩ := bind_some e'
  cases e3
  exact ⟨O, ρ, d1, gd, e1, fun v H1 s1 r1 => ⟨O, ρ, d2, gd.same s1, e2, fun w H2 s2 r2 => q _ H2 (s1.trans s2) (.cons (r1.same s2) r2)⟩⟩⟩
theorem dea_nil : DEA X B [] nilEA := ⟨pa_nil.imp fun σ H Q ⟨O, ρ, ds, ρ', gd, e, q⟩ => by
  cases e
  exact q [] H (.of gd (Same.refl H)) .nil⟩
theorem dea_cons (h : DE X B e f) (hs : DEA X B es fs) (hst : starEach (e :: es) X.env = (false, eval e X.env) :: starEach es X.env := by rfl) : DEA X B (e :: es) (consEA f fs) := ⟨(pa_cons h.pe hs.pa hst).imp fun σ H Q ⟨O, ρ, ds, ρ', gd, e, q⟩ => by
  obtain ⟨⟨d1, ρ1⟩, e1, e'⟩ := bind_some e
  obtain ⟨⟨d2, ρ2⟩, e2, e3⟩ := bind_some e'
  cases e3
  exact ⟨O, ρ, d1, ρ1, gd, e1, fun v H1 s1 r1 => ⟨O, ρ1, d2, ρ2, s1.good, e2, fun w H2 s2 r2 => q _ H2 (s1.trans s2) (.cons (s1.good.rep s2.keep r1) r2)⟩⟩⟩
theorem dp_n {t : TA → TE} (ht : ∀ {ta : TA}, PA X es ta → PE X e (t ta)) (F : List D → Option D) (hF : ∀ σ H Q O ρ ds z, Good B O σ H ρ → gs ρ = some ds → F ds = some z → (∀ v H', Same H H' → Rep (m.O B O) H' z v → Q v H') → t (tPA B m gs) σ H Q) (ha : DPA X B m es gs) : DP X B m e (nD gs F) :=
  ⟨(ht ha.pa).imp fun σ H Q ⟨O, ρ, d, gd, e, q⟩ => by
    obtain ⟨ds, e1, e2⟩ := bind_some e
    exact hF σ H Q O ρ ds d gd e1 e2 q⟩
theorem dp_tup {k} (ha : DPA X B m es gs) : DP X B m (.Tuple es k pos) (nD gs tupD) := dp_n (t := tTup) (fun h => pe_tup h) tupD (fun σ H Q O ρ ds z gd e1 e2 q => by
  refine ⟨O, ρ, ds, gd, e1, fun vs H1 s1 r1 => ?_⟩
  unfold tupD at e2
  split at e2
  · next hl =>
    cases e2
    exact ⟨line_le (by rw [← r1.length]; exact hl), fun p hp => q _ _ (s1.trans (same_upd hp)) (rep_tup hp r1)⟩
  · cases e2) ha
theorem dp_lst (ha : DPA X B m es gs) : DP X B m (.List es pos) (nD gs lstD) := dp_n (t := tLst) (fun h => pe_lst h) lstD (fun σ H Q O ρ ds z gd e1 e2 q => by
  refine ⟨O, ρ, ds, gd, e1, fun vs H1 s1 r1 => ?_⟩
  unfold lstD at e2
  split at e2
  · next hl =>
    cases e2
    exact ⟨line_le (by rw [← r1.length]; exact hl), fun p hp => q _ _ (s1.trans (same_upd hp)) (rep_lst ((gd.same s1).otr m) hp r1)⟩
  · cases e2) ha
theorem de_n {t : TA → TE} (ht : ∀ {ta : TA}, PA X es ta → PE X e (t ta)) (F : List D → Option D) (hF : ∀ σ H Q O ρ ρ' ds z, Good B O σ H ρ → fs ρ = some (ds, ρ') → F ds = some z → (∀ v H', Ext B O σ H ρ H' ρ' → Rep O H' z v → Q v H') → t (tEA B fs) σ H Q) (ha : DEA X B es fs) : DE X B e (nE fs F) :=
  ⟨(ht ha.pa).imp fun σ H Q ⟨O, ρ, d, ρ', gd, e, q⟩ => by
    obtain ⟨⟨ds, ρ1⟩, e1, e2⟩ := bind_some e
    obtain ⟨z, e3, e4⟩ := bind_some e2
    cases e4
    exact hF σ H Q O ρ _ ds d gd e1 e3 q⟩
theorem de_tup {k} (ha : DEA X B es fs) : DE X B (.Tuple es k pos) (nE fs tupD) := de_n (t := tTup) (fun h => pe_tup h) tupD (fun σ H Q O ρ ρ' ds z gd e1 e2 q => by
  refine ⟨O, ρ, ds, ρ', gd, e1, fun vs H1 s1 r1 => ?_⟩
  unfold tupD at e2
  split at e2
  · next hl =>
    cases e2
    exact ⟨line_le (by rw [← r1.length]; exact hl), fun p hp => q _ _ (s1.samr (same_upd hp)) (rep_tup hp r1)⟩
  · cases e2) ha
theorem de_lst (ha : DEA X B es fs) : DE X B (.List es pos) (nE fs lstD) := de_n (t := tLst) (fun h => pe_lst h) lstD (fun σ H Q O ρ ρ' ds z gd e1 e2 q => by
  refine ⟨O, ρ, ds, ρ', gd, e1, fun vs H1 s1 r1 => ?_⟩
  unfold lstD at e2
  split at e2
  · next hl =>
    cases e2
    exact ⟨line_le (by rw [← r1.length]; exact hl), fun p hp => q _ _ (s1.samr (same_upd hp)) (rep_lst (s1.good.otr .str) hp r1)⟩
  · cases e2) ha
/-! ### built-in functions and types -/
theorem dp_b {x : Str} {id : String} {r : List V → Hp → VK → Prop} {F : List D → Option D} (hc : CallR X (.builtin id) r) (hF : OpN r F) (hm : X.mg x = none) (hv : bootBuiltins x = some (.builtin id)) (ha : DPA X B m (e :: es) gs) (hg : Gl X x := by rfl) (hn : x ≠ "__name__" := by decide) (hdb : (x == ("__debug__" : Str)) = false := by decide)
    (he : starEach (e :: es) X.env = (false, eval e X.env) :: starEach es X.env := by rfl) (hpl : (backTo pos (starEach es X.env)).any (·.1) = false := by rfl) : DP X B m (.Call (.Name x p) (e :: es) [] pos) (nD gs F) :=
  dp_n (t := tCB r) (fun h => pe_callB hc hg hm hv h hn hdb he hpl) F (fun σ H Q O ρ ds z gd e1 e2 q => ⟨O, ρ, ds, gd, e1, fun vs H1 s1 r1 => hF _ H1 ds z vs Q ((gd.same s1).otr m) e2 r1 fun v H2 s2 r2 => q v H2 (s1.trans s2) r2⟩) ha
theorem de_b {x : Str} {id : String} {r : List V → Hp → VK → Prop} {F : List D → Option D} (hc : CallR X (.builtin id) r) (hF : OpN r F) (hm : X.mg x = none) (hv : bootBuiltins x = some (.builtin id)) (ha : DEA X B (e :: es) fs) (hg : Gl X x := by rfl) (hn : x ≠ "__name__" := by decide) (hdb : (x == ("__debug__" : Str)) = false := by decide)
    (he : starEach (e :: es) X.env = (false, eval e X.env) :: starEach es X.env := by rfl) (hpl : (backTo pos (starEach es X.env)).any (·.1) = false := by rfl) : DE X B (.Call (.Name x p) (e :: es) [] pos) (nE fs F) :=
  de_n (t := tCB r) (fun h => pe_callB hc hg hm hv h hn hdb he hpl) F (fun σ H Q O ρ ρ' ds z gd e1 e2 q => ⟨O, ρ, ds, ρ', gd, e1, fun vs H1 s1 r1 => hF _ H1 ds z vs Q (s1.good.otr .str) e2 r1 fun v H2 s2 r2 => q v H2 (s1.samr s2) r2⟩) ha
theorem dp_ty {x : Str} {T : String} {r : List V → Hp → VK → Prop} {F : List D → Option D} (hc : CallR X (.type T) r) (hF : OpN r F) (hm : X.mg x = none) (hv : bootBuiltins x = some (.type T)) (ha : DPA X B m (e :: es) gs) (hg : Gl X x := by rfl) (hn : x ≠ "__name__" := by decide) (hdb : (x == ("__debug__" : Str)) = false := by decide)
    (he : starEach (e :: es) X.env = (false, eval e X.env) :: starEach es X.env := by rfl) (hpl : (backTo pos (starEach es X.env)).any (·.1) = false := by rfl) : DP X B m (.Call (.Name x p) (e :: es) [] pos) (nD gs F) :=
  dp_n (t := tCB r) (fun h => pe_callTy hc hg hm hv h hn hdb he hpl) F (fun σ H Q O ρ ds z gd e1 e2 q => ⟨O, ρ, ds, gd, e1, fun vs H1 s1 r1 => hF _ H1 ds z vs Q ((gd.same s1).otr m) e2 r1 fun v H2 s2 r2 => q v H2 (s1.trans s2) r2⟩) ha
theorem de_ty {x : Str} {T : String} {r : List V → Hp → VK → Prop} {F : List D → Option D} (hc : CallR X (.type T) r) (hF : OpN r F) (hm : X.mg x = none) (hv : bootBuiltins x = some (.type T)) (ha : DEA X B (e :: es) fs) (hg : Gl X x := by rfl) (hn : x ≠ "__name__" := by decide) (hdb : (x == ("__debug__" : Str)) = false := by decide)
    (he : starEach (e :: es) X.env = (false, eval e X.env) :: starEach es X.env := by rfl) (hpl : (backTo pos (starEach es X.env)).any (·.1) = false := by rfl) : DE X B (.Call (.Name x p) (e :: es) [] pos) (nE fs F) :=
  de_n (t := tCB r) (fun h => pe_callTy hc hg hm hv h hn hdb he hpl) F (fun σ H Q O ρ ρ' ds z gd e1 e2 q => ⟨O, ρ, ds, ρ', gd, e1, fun vs H1 s1 r1 => hF _ H1 ds z vs Q (s1.good.otr .str) e2 r1 fun v H2 s2 r2 => q v H2 (s1.samr s2) r2⟩) ha
/-! ### defs of the text -/
theorem dp_call {x : Str} {k j : Nat} {F : List D → Option D} (hF : Fn X.prog X.w X.K X.mg X.base k x F) (hr : Room j X.A) (hk : k ≤ j) (ha : DPA X B m (e :: es) gs) (hg : Gl X x := by rfl) (hdb : (x == ("__debug__" : Str)) = false := by decide)
    (he : starEach (e :: es) X.env = (false, eval e X.env) :: starEach es X.env := by rfl) (hpl : (backTo pos (starEach es X.env)).any (·.1) = false := by rfl) : DP X B m (.Call (.Name x p) (e :: es) [] pos) (nD gs F) := by
  obtain ⟨fa, fd, ps, G, hm, kp, b⟩ := hF.ex
  refine dp_n (t := tCall (spP F) [] E0) (fun h => pe_call G (hr.mono hk) hg hm kp b .nil pass0 h hdb he hpl) F (fun σ H Q O ρ ds z gd e1 e2 q => ⟨O, ρ, ds, gd, e1, fun vs H1 s1 r1 => ?_⟩) ha
  show spP F (vs ++ []) H1 Q E0
  rw [List.append_nil]
  exact ⟨_, ds, z, (gd.same s1).otr m, r1, e2, fun v H2 s2 r2 => q v H2 (s1.trans s2) r2⟩
theorem de_call {x : Str} {k j : Nat} {F : List D → Option D} (hF : Fn X.prog X.w X.K X.mg X.base k x F) (hr : Room j X.A) (hk : k ≤ j) (ha : DEA X B (e :: es) fs) (hg : Gl X x := by rfl) (hdb : (x == ("__debug__" : Str)) = false := by decide)
    (he : starEach (e :: es) X.env = (false, eval e X.env) :: starEach es X.env := by rfl) (hpl : (backTo pos (starEach es X.env)).any (·.1) = false := by rfl) : DE X B (.Call (.Name x p) (e :: es) [] pos) (nE fs F) := by
  obtain ⟨fa, fd, ps, G, hm, kp, b⟩ := hF.ex
  refine de_n (t := tCall (spP F) [] E0) (fun h => pe_call G (hr.mono hk) hg hm kp b .nil pass0 h hdb he hpl) F (fun σ H Q O ρ ρ' ds z gd e1 e2 q => ⟨O, ρ, ds, ρ', gd, e1, fun vs H1 s1 r1 => ?_⟩) ha
  show spP F (vs ++ []) H1 Q E0
  rw [List.append_nil]
  exact ⟨_, ds, z, s1.good.otr .str, r1, e2, fun v H2 s2 r2 => q v H2 (s1.samr s2) r2⟩
end
end DL

namespace DL
open PySem PySem.Spec
open PyProof.Rows hiding St
open L2
/-! ## tests -/
structure DPW (X : Cx) (B : Base) (e : Expr) (g : Rho → Option Bool) : Prop where
  pw : PW X e (tPT B g)
structure DEW (X : Cx) (B : Base) (e : Expr) (f : Rho → Option (Bool × Rho)) : Prop where
  pw : PW X e (tET B f)
@[simp] def tstD (g : Rho → Option D) : Rho → Option Bool := fun ρ => (g ρ).bind asBool
@[simp] def andT (g h : Rho → Option Bool) : Rho → Option Bool := fun ρ => (g ρ).bind fun c => if c = true then h ρ else some false
@[simp] def orT (g h : Rho → Option Bool) : Rho → Option Bool := fun ρ => (g ρ).bind fun c => if c = true then some true else h ρ
@[simp] def notT (g : Rho → Option Bool) : Rho → Option Bool := fun ρ => (g ρ).bind fun c => some (!c)
@[simp] def ifD (c : Rho → Option Bool) (g h : Rho → Option D) : Rho → Option D := fun ρ => (c ρ).bind fun c => if c = true then g ρ else h ρ
@[simp] def andV (g h : Rho → Option D) : Rho → Option D := fun ρ => (g ρ).bind fun d => (asBool d).bind fun c => if c = true then h ρ else some (.bool false)
@[simp] def orV (g h : Rho → Option D) : Rho → Option D := fun ρ => (g ρ).bind fun d => (asBool d).bind fun c => if c = true then some (.bool true) else h ρ
@[simp] def notD : D → Option D
  | .bool b => some (.bool (!b))
  | _ => none
@[simp] def chD (f1 f2 : D → D → Option D) (ga gb gc : Rho → Option D) : Rho → Option D := fun ρ => (ga ρ).bind fun a => (gb ρ).bind fun b => (f1 a b).bind fun r => (asBool r).bind fun c => if c = true then (gc ρ).bind fun d => f2 b d else some (.bool false)
@[simp] def tstE (f : Rho → Option (D × Rho)) : Rho → Option (Bool × Rho) := fun ρ => (f ρ).bind fun p => (asBool p.1).bind fun c => some (c, p.2)
@[simp] def toT (g : Rho → Option Bool) : Rho → Option (Bool × Rho) := fun ρ => (g ρ).bind fun c => some (c, ρ)
@[simp] def andE (g h : Rho → Option (Bool × Rho)) : Rho → Option (Bool × Rho) := fun ρ => (g ρ).bind fun p => if p.1 = true then h p.2 else some (false, p.2)
@[simp] def orE (g h : Rho → Option (Bool × Rho)) : Rho → Option (Bool × Rho) := fun ρ => (g ρ).bind fun p => if p.1 = true then some (true, p.2) else h p.2
@[simp] def notE (g : Rho → Option (Bool × Rho)) : Rho → Option (Bool × Rho) := fun ρ => (g ρ).bind fun p => some (!p.1, p.2)
@[simp] def ifE (c : Rho → Option (Bool × Rho)) (g h : Rho → Option (D × Rho)) : Rho → Option (D × Rho) := fun ρ => (c ρ).bind fun p => if p.1 = true then g p.2 else h p.2
theorem asBool_some {d : D} {c : Bool} (h : asBool d = some c) : d = .bool c := by
  unfold asBool at h
  split at h
  · cases h; rfl
  · cases h
section
variable {X : Cx} {B : Base} {m : Md} {a b c e : Expr} {es : List Expr} {ga gb gc g : Rho → Option D} {fa fb f : Rho → Option (D × Rho)} {ta tb tt : Rho → Option Bool} {ua ub uu : Rho → Option (Bool × Rho)} {pos p : Pos}
theorem dt_val (h : DP X B m e g) (he : ∀ whole, isTrue e X.env whole = (do let v ← whole; standAt e.pos; holding [v] (truthy v)) := by intro _; rfl) : DPT X B e (tstD g) := ⟨(pt_val h.pe he).imp fun σ H Q ⟨O, ρ, k, gd, e, q⟩ => by
  obtain ⟨d, e1, e2⟩ := bind_some e
  cases asBool_some e2
  exact ⟨O, ρ, _, gd, e1, fun v H1 s1 r1 => ⟨k, rep_bool.mp r1, q H1 s1⟩⟩⟩
theorem dt_bin2 {r : R2} {F : D → D → Option D} (ht : ∀ {ta tb : TE}, PE X a ta → PE X b tb → PT X e (tTest fun σ H Q => ta σ H fun x H1 => tb σ H1 fun y H2 => r x y H2 Q)) (hf : Op2 r F) (ha : DP X B m a ga) (hb : DP X B m b gb) : DPT X B e (tstD (b2D ga gb F)) :=
  ⟨(ht ha.pe hb.pe).imp fun σ H Q ⟨O, ρ, k, gd, e, q⟩ => by
    obtain ⟨d, e0, ek⟩ := bind_some e
    obtain ⟨d1, e1, e'⟩ := bind_some e0
    obtain ⟨d2, e2, e3⟩ := bind_some e'
    cases asBool_some ek
    refine ⟨O, ρ, d1, gd, e1, fun v H1 s1 r1 => ⟨O, ρ, d2, gd.same s1, e2, fun w H2 s2 r2 => ?_⟩⟩
    exact hf _ H2 d1 d2 _ v w _ ((gd.same (s1.trans s2)).otr m) e3 (r1.same s2) r2 fun u H3 s3 r3 => ⟨k, rep_bool.mp r3, q H3 ((s1.trans s2).trans s3)⟩⟩
theorem dt_cmp {op : CmpOp} {r : R2} {F : D → D → Option D} (ho : OpR X (compareOp op) r) (hf : Op2 r F) (ha : DP X B m a ga) (hb : DP X B m b gb) (hm : behindInMarks op b = false) : DPT X B (.Compare a [op] [b] pos) (tstD (b2D ga gb F)) :=
  dt_bin2 (fun ha hb => pt_cmpR ho ha hb hm) hf ha hb
theorem ch_imp {r r' : R2} {F F' : D → D → Option D} (hf : Op2 r F) (hf' : Op2 r' F') {σ : St} {H : Hp} {Q : VK} (h : tP B m (chD F F' ga gb gc) σ H Q) : tChain r r' (tP B m ga) (tP B m gb) (tP B m gc) σ H Q := by
  obtain ⟨O, ρ, z, gd, e, q⟩ := h
  obtain ⟨d1, e1, e'⟩ := bind_some e
  obtain ⟨d2, e2, e3⟩ := bind_some e'
  obtain ⟨d3, e3, e4⟩ := bind_some e3
  obtain ⟨k, e5, e6⟩ := bind_some e4
  cases asBool_some e5
  refine ⟨O, ρ, d1, gd, e1, fun v H1 s1 r1 => ⟨O, ρ, d2, gd.same s1, e2, fun w H2 s2 r2 => ?_⟩⟩
  refine hf _ H2 d1 d2 _ v w _ ((gd.same (s1.trans s2)).otr m) e3 (r1.same s2) r2 fun u H3 s3 r3 => ⟨k, rep_bool.mp r3, ?_⟩
  cases k with
  | false =>
    cases e6
    exact q _ H3 ((s1.trans s2).trans s3) (rep_bool.mpr rfl)
  | true =>
    obtain ⟨d4, e7, e8⟩ := bind_some e6
    refine ⟨O, ρ, d4, gd.same ((s1.trans s2).trans s3), e7, fun y H4 s4 r4 => ?_⟩
    exact hf' _ H4 d2 d4 z w y Q ((gd.same (((s1.trans s2).trans s3).trans s4)).otr m) e8 ((r2.same s3).same s4) r4 fun u H5 s5 r5 => q u H5 ((((s1.trans s2).trans s3).trans s4).trans s5) r5
theorem dp_chain {op op' : CmpOp} {r r' : R2} {F F' : D → D → Option D} (ho : OpR X (compareOp op) r) (hf : Op2 r F) (ho' : OpR X (compareOp op') r') (hf' : Op2 r' F') (ha : DP X B m a ga) (hb : DP X B m b gb) (hc : DP X B m c gc)
    (h1 : lastMarks [op, op'] [b, c] = false := by with_unfolding_all rfl) : DP X B m (.Compare a [op, op'] [b, c] pos) (chD F F' ga gb gc) :=
  ⟨(pe_chain ho ho' ha.pe hb.pe hc.pe h1).imp fun σ H Q h => ch_imp hf hf' h⟩
theorem dt_chain {op op' : CmpOp} {r r' : R2} {F F' : D → D → Option D} (ho : OpR X (compareOp op) r) (hf : Op2 r F) (ho' : OpR X (compareOp op') r') (hf' : Op2 r' F') (ha : DP X B m a ga) (hb : DP X B m b gb) (hc : DP X B m c gc)
    (h1 : lastMarks [op, op'] [b, c] = false := by with_unfolding_all rfl) : DPT X B (.Compare a [op, op'] [b, c] pos) (tstD (chD F F' ga gb gc)) :=
  ⟨(pt_chain ho ho' ha.pe hb.pe hc.pe h1).imp fun σ H Q ⟨O, ρ, k, gd, e, q⟩ => by
    obtain ⟨d, e0, ek⟩ := bind_some e
    cases asBool_some ek
    exact ch_imp hf hf' ⟨O, ρ, _, gd, e0, fun v H1 s1 r1 => ⟨k, rep_bool.mp r1, q H1 s1⟩⟩⟩
theorem dw_and1 (h : DPT X B a ta) : DPW X B (.BoolOp .And [a] pos) ta := ⟨pw_and1 h.pt⟩
theorem dw_or1 (h : DPT X B a ta) : DPW X B (.BoolOp .Or [a] pos) ta := ⟨pw_or1 h.pt⟩
theorem dw_and (h : DPT X B a ta) (h2 : DPW X B (.BoolOp .And (b :: es) pos) tb) : DPW X B (.BoolOp .And (a :: b :: es) pos) (andT ta tb) := ⟨(pw_and h.pt h2.pw).imp fun σ H Q ⟨O, ρ, k, gd, e, q⟩ => by
  obtain ⟨c, e1, e2⟩ := bind_some e
  refine ⟨O, ρ, c, gd, e1, fun H1 s1 => ?_⟩
  cases c with
  | false => cases e2; exact q H1 s1
  | true => exact ⟨O, ρ, k, gd.same s1, e2, fun H2 s2 => q H2 (s1.trans s2)⟩⟩
theorem dw_or (h : DPT X B a ta) (h2 : DPW X B (.BoolOp .Or (b :: es) pos) tb) : DPW X B (.BoolOp .Or (a :: b :: es) pos) (orT ta tb) := ⟨(pw_or h.pt h2.pw).imp fun σ H Q ⟨O, ρ, k, gd, e, q⟩ => by
  obtain ⟨c, e1, e2⟩ := bind_some e
  refine ⟨O, ρ, c, gd, e1, fun H1 s1 => ?_⟩
  cases c with
  | true => cases e2; exact q H1 s1
  | false => exact ⟨O, ρ, k, gd.same s1, e2, fun H2 s2 => q H2 (s1.trans s2)⟩⟩
theorem dt_w (h : DPW X B e tt) : DPT X B e tt := ⟨h.pw.pt⟩
theorem dt_not (h : DPT X B a ta) : DPT X B (.UnaryOp .Not a pos) (notT ta) := ⟨(pt_not h.pt).imp fun σ H Q ⟨O, ρ, k, gd, e, q⟩ => by
  obtain ⟨c, e1, e2⟩ := bind_some e
  cases e2
  exact ⟨O, ρ, c, gd, e1, fun H1 s1 => q H1 s1⟩⟩
theorem dp_if (hc : DPT X B c tt) (ha : DP X B m a ga) (hb : DP X B m b gb) : DP X B m (.IfExp c a b pos) (ifD tt ga gb) := ⟨(pe_ifExp hc.pt ha.pe hb.pe).imp fun σ H Q ⟨O, ρ, d, gd, e, q⟩ => by
  obtain ⟨k, e1, e2⟩ := bind_some e
  refine ⟨O, ρ, k, gd, e1, fun H1 s1 => ?_⟩
  cases k with
  | true => exact ⟨O, ρ, d, gd.same s1, e2, fun v H2 s2 r => q v H2 (s1.trans s2) r⟩
  | false => exact ⟨O, ρ, d, gd.same s1, e2, fun v H2 s2 r => q v H2 (s1.trans s2) r⟩⟩
theorem dp_one {op} (h : DP X B m a ga) : DP X B m (.BoolOp op [a] pos) ga := ⟨pe_one h.pe⟩
theorem dp_and (h : DP X B m a ga) (h2 : DP X B m (.BoolOp .And (b :: es) pos) gb) : DP X B m (.BoolOp .And (a :: b :: es) pos) (andV ga gb) := ⟨(pe_and h.pe h2.pe).imp fun σ H Q ⟨O, ρ, d, gd, e, q⟩ => by
  obtain ⟨d1, e1, e2⟩ := bind_some e
  obtain ⟨c, e3, e4⟩ := bind_some e2
  cases asBool_some e3
  refine ⟨O, ρ, _, gd, e1, fun v H1 s1 r1 => ⟨c, rep_bool.mp r1, ?_⟩⟩
  cases c with
  | false => cases e4; exact q _ H1 s1 (rep_bool.mpr rfl)
  | true => exact ⟨O, ρ, d, gd.same s1, e4, fun v H2 s2 r => q v H2 (s1.trans s2) r⟩⟩
theorem dp_or (h : DP X B m a ga) (h2 : DP X B m (.BoolOp .Or (b :: es) pos) gb) : DP X B m (.BoolOp .Or (a :: b :: es) pos) (orV ga gb) := ⟨(pe_or h.pe h2.pe).imp fun σ H Q ⟨O, ρ, d, gd, e, q⟩ => by
  obtain ⟨d1, e1, e2⟩ := bind_some e
  obtain ⟨c, e3, e4⟩ := bind_some e2
  cases asBool_some e3
  refine ⟨O, ρ, _, gd, e1, fun v H1 s1 r1 => ⟨c, rep_bool.mp r1, ?_⟩⟩
  cases c with
  | true => cases e4; exact q _ H1 s1 (rep_bool.mpr rfl)
  | false => exact ⟨O, ρ, d, gd.same s1, e4, fun v H2 s2 r => q v H2 (s1.trans s2) r⟩⟩
theorem dp_not (h : DP X B m a ga) : DP X B m (.UnaryOp .Not a pos) (b1D ga notD) := ⟨(pe_not h.pe).imp fun σ H Q ⟨O, ρ, d, gd, e, q⟩ => by
  obtain ⟨d1, e1, e2⟩ := bind_some e
  unfold notD at e2
  split at e2
  · cases e2
    exact ⟨O, ρ, _, gd, e1, fun v H1 s1 r1 => ⟨_, rep_bool.mp r1, q _ H1 s1 (rep_bool.mpr rfl)⟩⟩
  · cases e2⟩
/-! ### tests that draw -/
theorem det_of (h : DPT X B e tt) : DET X B e (toT tt) := ⟨h.pt.imp fun σ H Q ⟨O, ρ, k, ρ', gd, e, q⟩ => by
  obtain ⟨c, e1, e2⟩ := bind_some e
  cases e2
  exact ⟨O, ρ, _, gd, e1, fun H1 s1 => q H1 (.of gd s1)⟩⟩
theorem det_val (h : DE X B e f) (he : ∀ whole, isTrue e X.env whole = (do let v ← whole; standAt e.pos; holding [v] (truthy v)) := by intro _; rfl) : DET X B e (tstE f) := ⟨(pt_val h.pe he).imp fun σ H Q ⟨O, ρ, k, ρ', gd, e, q⟩ => by
  obtain ⟨⟨d, ρ1⟩, e1, e2⟩ := bind_some e
  obtain ⟨c, e3, e4⟩ := bind_some e2
  cases asBool_some e3
  cases e4
  exact ⟨O, ρ, _, _, gd, e1, fun v H1 s1 r1 => ⟨k, rep_bool.mp r1, q H1 s1⟩⟩⟩
theorem det_cmp {op : CmpOp} {r : R2} {F : D → D → Option D} (ho : OpR X (compareOp op) r) (hf : Op2 r F) (ha : DE X B a fa) (hb : DE X B b fb) (hm : behindInMarks op b = false) : DET X B (.Compare a [op] [b] pos) (tstE (b2E fa fb F)) :=
  ⟨(pt_cmpR ho ha.pe hb.pe hm).imp fun σ H Q ⟨O, ρ, k, ρ', gd, e, q⟩ => by
    obtain ⟨⟨d, ρ0⟩, e0, ek⟩ := bind_some e
    obtain ⟨⟨d1, ρ1⟩, e1, e'⟩ := bind_some e0
    obtain ⟨⟨d2, ρ2⟩, e2, e''⟩ := bind_some e'
    obtain ⟨z, e3, e4⟩ := bind_some e''
    cases e4
    obtain ⟨c, e5, e6⟩ := bind_some ek
    cases asBool_some e5
    cases e6
    refine ⟨O, ρ, d1, ρ1, gd, e1, fun v H1 s1 r1 => ⟨O, ρ1, d2, _, s1.good, e2, fun w H2 s2 r2 => ?_⟩⟩
    exact hf _ H2 d1 d2 _ v w _ (s2.good.otr .str) e3 (s1.good.rep s2.keep r1) r2 fun u H3 s3 r3 => ⟨k, rep_bool.mp r3, q H3 ((s1.trans s2).samr s3)⟩⟩
theorem dew_and1 (h : DET X B a ua) : DEW X B (.BoolOp .And [a] pos) ua := ⟨pw_and1 h.pt⟩
theorem dew_or1 (h : DET X B a ua) : DEW X B (.BoolOp .Or [a] pos) ua := ⟨pw_or1 h.pt⟩
theorem dew_and (h : DET X B a ua) (h2 : DEW X B (.BoolOp .And (b :: es) pos) ub) : DEW X B (.BoolOp .And (a :: b :: es) pos) (andE ua ub) := ⟨(pw_and h.pt h2.pw).imp fun σ H Q ⟨O, ρ, k, ρ', gd, e, q⟩ => by
  obtain ⟨⟨c, ρ1⟩, e1, e2⟩ := bind_some e
  refine ⟨O, ρ, c, ρ1, gd, e1, fun H1 s1 => ?_⟩
  cases c with
  | false => cases e2; exact q H1 s1
  | true => exact ⟨O, ρ1, k, ρ', s1.good, e2, fun H2 s2 => q H2 (s1.trans s2)⟩⟩
theorem dew_or (h : DET X B a ua) (h2 : DEW X B (.BoolOp .Or (b :: es) pos) ub) : DEW X B (.BoolOp .Or (a :: b :: es) pos) (orE ua ub) := ⟨(pw_or h.pt h2.pw).imp fun σ H Q ⟨O, ρ, k, ρ', gd, e, q⟩ => by
  obtain ⟨⟨c, ρ1⟩, e1, e2⟩ := bind_some e
  refine ⟨O, ρ, c, ρ1, gd, e1, fun H1 s1 => ?_⟩
  cases c with
  | true => cases e2; exact q H1 s1
  | false => exact ⟨O, ρ1, k, ρ', s1.good, e2, fun H2 s2 => q H2 (s1.trans s2)⟩⟩
theorem det_w (h : DEW X B e uu) : DET X B e uu := ⟨h.pw.pt⟩
theorem det_not (h : DET X B a ua) : DET X B (.UnaryOp .Not a pos) (notE ua) := ⟨(pt_not h.pt).imp fun σ H Q ⟨O, ρ, k, ρ', gd, e, q⟩ => by
  obtain ⟨⟨c, ρ1⟩, e1, e2⟩ := bind_some e
  cases e2
  exact ⟨O, ρ, c, _, gd, e1, fun H1 s1 => q H1 s1⟩⟩
theorem de_if (hc : DET X B c uu) (ha : DE X B a fa) (hb : DE X B b fb) : DE X B (.IfExp c a b pos) (ifE uu fa fb) := ⟨(pe_ifExp hc.pt ha.pe hb.pe).imp fun σ H Q ⟨O, ρ, d, ρ', gd, e, q⟩ => by
  obtain ⟨⟨k, ρ1⟩, e1, e2⟩ := bind_some e
  refine ⟨O, ρ, k, ρ1, gd, e1, fun H1 s1 => ?_⟩
  cases k with
  | true => exact ⟨O, ρ1, d, ρ', s1.good, e2, fun v H2 s2 r => q v H2 (s1.trans s2) r⟩
  | false => exact ⟨O, ρ1, d, ρ', s1.good, e2, fun v H2 s2 r => q v H2 (s1.trans s2) r⟩⟩
end
end DL

namespace DL
open PySem PySem.Spec
open PyProof.Rows hiding St
open L2
/-! ## statements -/
inductive Out where
  | nx (ρ : Rho) | rt (d : D) (ρ : Rho)
structure Stp (O : Addr → Prop) (σ : St) (H : Hp) (ρ : Rho) (O' : Addr → Prop) (σ' : St) (H' : Hp) (ρ' : Rho) : Prop where
  keep : Keep (Wof σ ρ) H H'
  out : ∀ b, O' b → O b ∨ H b = none
  grow : ∀ b, O b → O' b
  w : ∀ b, Wof σ' ρ' b → Wof σ ρ b ∨ H b = none
def EndS (B : Base) (O : Addr → Prop) (σ : St) (H : Hp) (ρ : Rho) (E : Ends) : Out → Prop
  | .nx ρ' => ∀ σ' H' O', Stp O σ H ρ O' σ' H' ρ' → Good B O' σ' H' ρ' → E.nx σ' H'
  | .rt d ρ' => ∀ v σ' H' O', Stp O σ H ρ O' σ' H' ρ' → Good B O' σ' H' ρ' → Rep B.O0 H' d v → E.rt v H'
def tS (B : Base) (F : Rho → Option Out) : TS := fun E σ H => ∃ O ρ r, Good B O σ H ρ ∧ F ρ = some r ∧ EndS B O σ H ρ E r
structure DS (X : Cx) (B : Base) (st : Stmt) (F : Rho → Option Out) : Prop where
  ps : PS X st (tS B F)
structure DSs (X : Cx) (B : Base) (st : List Stmt) (F : Rho → Option Out) : Prop where
  ps : PSs X st (tS B F)
section
variable {B : Base} {O O' O1 O2 : Addr → Prop} {σ σ1 σ2 : St} {H H' H1 H2 : Hp} {ρ ρ' ρ1 ρ2 : Rho}
theorem Keep.none {W : Addr → Prop} (k : Keep W H H') (hw : ∀ b, W b → ∃ vs, H b = some (.lst vs)) {b : Addr} (h : H' b = none) : H b = none := by
  cases e : H b with
  | none => rfl
  | some o => exact absurd h (k.ne hw (some_ne e))
theorem Good.none (g : Good B O σ H ρ) (k : Keep (Wof σ ρ) H H') {b : Addr} (h : H' b = Option.none) : H b = Option.none := k.none (fun b z => (g.wof z).2) h
theorem Stp.refl : Stp O σ H ρ O σ H ρ := ⟨.of (Same.refl H), fun _ h => .inl h, fun _ h => h, fun _ h => .inl h⟩
theorem Stp.ext (x : Ext B O σ H ρ H' ρ') : Stp O σ H ρ O σ H' ρ' := ⟨x.keep, fun _ h => .inl h, fun _ h => h, fun b h => .inl (x.w b h)⟩
theorem Stp.trans (g : Good B O σ H ρ) (a : Stp O σ H ρ O1 σ1 H1 ρ1) (b : Stp O1 σ1 H1 ρ1 O2 σ2 H2 ρ2) : Stp O σ H ρ O2 σ2 H2 ρ2 :=
  ⟨a.keep.trans b.keep a.w, fun c h => (b.out c h).elim (fun z => a.out c z) fun z => .inr (g.none a.keep z), fun c h => b.grow c (a.grow c h), fun c h => (b.w c h).elim (fun z => a.w c z) fun z => .inr (g.none a.keep z)⟩
theorem Stp.mv (g : Good B O σ H ρ) (a : Stp O σ H ρ O1 σ1 H1 ρ1) : Mv O H O1 H1 := g.mv a.keep a.out
theorem EndS.after {E : Ends} {r : Out} (g : Good B O σ H ρ) (a : Stp O σ H ρ O1 σ1 H1 ρ1) (q : EndS B O σ H ρ E r) : EndS B O1 σ1 H1 ρ1 E r := by
  cases r with
  | nx ρ' => exact fun σ' H' O' s gd => q σ' H' O' (a.trans g s) gd
  | rt d ρ' => exact fun v σ' H' O' s gd rp => q v σ' H' O' (a.trans g s) gd rp
theorem get_set_ne {α : Type} {l : List α} {i j : Nat} {x : α} (h : i ≠ j) : (l.set i x)[j]? = l[j]? := List.getElem?_set_ne h
/-- a slot gets a datum -/
theorem Good.set (g : Good B O σ H ρ) {i : Nat} {d : D} {v : V} (r : Rep O H d v) : Good B O (σ.set i (some v)) H (ρ.set i (.dat d)) ∧ ∀ b, Wof (σ.set i (some v)) (ρ.set i (.dat d)) b → Wof σ ρ b := by
  have hw : ∀ (j : Nat) s, (ρ.set i (.dat d))[j]? = some s → isOwn s = true → i ≠ j ∧ ρ[j]? = some s := fun j s e q => by
    by_cases hj : i = j
    · subst hj
      by_cases hl : i < ρ.length
      · rw [List.getElem?_set_self hl] at e; cases e; cases q
      · rw [List.getElem?_eq_none (by simpa using hl)] at e; cases e
    · exact ⟨hj, by rw [get_set_ne hj] at e; exact e⟩
  refine ⟨⟨by simp [g.len], g.frame, g.o0, g.r0, g.osub, g.otrk, g.h0, fun j s e => ?_, fun j k s t b e1 e2 q1 q2 e3 e4 => ?_⟩, fun b ⟨j, s, e, q, e3⟩ => ?_⟩
  · by_cases hj : i = j
    · subst hj
      have hl : i < ρ.length := by
        by_cases hl : i < ρ.length
        · exact hl
        · rw [List.getElem?_eq_none (by simpa using hl)] at e; cases e
      rw [List.getElem?_set_self hl] at e
      cases e
      rw [List.getElem?_set_self (by rw [g.len]; exact hl)]
      exact ⟨v, rfl, r⟩
    · rw [get_set_ne hj] at e
      rw [get_set_ne hj]
      exact g.slots j s e
  · obtain ⟨h1, k1⟩ := hw j s e1 q1
    obtain ⟨h2, k2⟩ := hw k t e2 q2
    rw [get_set_ne h1] at e3
    rw [get_set_ne h2] at e4
    exact g.sep j k s t b k1 k2 q1 q2 e3 e4
  · obtain ⟨h1, k1⟩ := hw j s e q
    rw [get_set_ne h1] at e3
    exact ⟨j, s, k1, q, e3⟩
/-- a slot gets a new list of its own -/
theorem Good.setOwn (g : Good B O σ H ρ) {i : Nat} {ds : List D} {a : Addr} {vs : List V} (s : Same H H') (ha : H a = Option.none) (ha' : H' a = some (.lst vs)) (r : RepL (fun b => O b ∨ b = a) H' ds vs) :
    Good B (fun b => O b ∨ b = a) (σ.set i (some (.ref a))) H' (ρ.set i (.own ds)) ∧ Stp O σ H ρ (fun b => O b ∨ b = a) (σ.set i (some (.ref a))) H' (ρ.set i (.own ds)) := by
  obtain ⟨n1, n2, n3⟩ := g.fresh ha
  have hout : ∀ b, (O b ∨ b = a) → O b ∨ H b = Option.none := fun b h => by
    rcases h with h | h
    · exact .inl h
    · exact .inr (by rw [h]; exact ha)
  have mv : Mv O H (fun b => O b ∨ b = a) H' := ⟨fun b o e _ => s b o e, hout⟩
  have hne : ∀ (j : Nat) t b, ρ[j]? = some t → isOwn t = true → σ[j]? = some (some (.ref b)) → b ≠ a := fun j t b e q e3 z => by
    obtain ⟨_, vs, h⟩ := g.wof ⟨j, t, e, q, e3⟩
    rw [z, ha] at h; cases h
  refine ⟨⟨by simp [g.len], fun b o e n => s b o (g.frame b o e n), g.o0, g.r0, fun b h => .inl (g.osub b h), fun b h => ?_, fun b h => s.ne (g.h0 b h), fun j t e => ?_, fun j k t u b e1 e2 q1 q2 e3 e4 => ?_⟩, ⟨.of s, hout, fun b h => .inl h, fun b ⟨j, t, e, q, e3⟩ => ?_⟩⟩
  · rcases h with h | h
    · exact s.ne (g.otrk b h)
    · rw [h]; exact some_ne ha'
  · by_cases hj : i = j
    · subst hj
      have hl : i < ρ.length := by
        by_cases hl : i < ρ.length
        · exact hl
        · rw [List.getElem?_eq_none (by simpa using hl)] at e; cases e
      rw [List.getElem?_set_self hl] at e
      cases e
      rw [List.getElem?_set_self (by rw [g.len]; exact hl)]
      exact ⟨a, vs, rfl, .inr rfl, n2, n3, ha', r⟩
    · rw [get_set_ne hj] at e
      rw [get_set_ne hj]
      have k := g.slots j t e
      cases t with
      | nil => trivial
      | dat d => exact SlOk.mv mv rfl k
      | own es => obtain ⟨b, us, e1, h1, h2, h3, h4, r4⟩ := k; exact ⟨b, us, e1, .inl h1, h2, h3, s b _ h4, RepL.mv mv _ _ r4⟩
      | bag es => obtain ⟨b, us, e1, h1, h2, h4, r4⟩ := k; exact ⟨b, us, e1, h1, .inl h2, s b _ h4, RepL.mv mv _ _ r4⟩
      | raw v => exact k
  · by_cases hj : i = j
    · by_cases hk : i = k
      · rw [← hj, ← hk]
      · subst hj
        rw [get_set_ne hk] at e2 e4
        have hl : i < ρ.length := by
          by_cases hl : i < ρ.length
          · exact hl
          · rw [List.getElem?_eq_none (by simpa using hl)] at e1; cases e1
        rw [List.getElem?_set_self (by rw [g.len]; exact hl)] at e3
        cases e3
        exact absurd rfl (hne k u _ e2 q2 e4)
    · by_cases hk : i = k
      · subst hk
        rw [get_set_ne hj] at e1 e3
        have hl : i < ρ.length := by
          by_cases hl : i < ρ.length
          · exact hl
          · rw [List.getElem?_eq_none (by simpa using hl)] at e2; cases e2
        rw [List.getElem?_set_self (by rw [g.len]; exact hl)] at e4
        cases e4
        exact absurd rfl (hne j t _ e1 q1 e3)
      · rw [get_set_ne hj] at e1 e3
        rw [get_set_ne hk] at e2 e4
        exact g.sep j k t u b e1 e2 q1 q2 e3 e4
  · by_cases hj : i = j
    · subst hj
      have hl : i < ρ.length := by
        by_cases hl : i < ρ.length
        · exact hl
        · rw [List.getElem?_eq_none (by simpa using hl)] at e; cases e
      rw [List.getElem?_set_self (by rw [g.len]; exact hl)] at e3
      cases e3
      exact .inr ha
    · rw [get_set_ne hj] at e e3
      exact .inl ⟨j, t, e, q, e3⟩
@[simp] def reOwn (t : Sl) (ds : List D) : Sl := match t with
  | .own _ => .own ds
  | .bag _ => .bag ds
  | s => s
@[simp] def ownOf : Sl → Option (List D)
  | .own ds => some ds
  | .bag ds => some ds
  | _ => none
/-- the list of a slot's own is changed -/
theorem Good.put (g : Good B O σ H ρ) {i : Nat} {t : Sl} {ds es : List D} {a : Addr} {ws : List V} (hi : ρ[i]? = some t) (ht : ownOf t = some es) (ha : σ[i]? = some (some (.ref a))) (s : ∀ b o, b ≠ a → H b = some o → H' b = some o) (ha' : H' a = some (.lst ws)) (r : RepL O H' ds ws) :
    Ext B O σ H ρ H' (ρ.set i (reOwn t ds)) := by
  have ho : isOwn t = true := by
    cases t with
    | nil => cases ht
    | dat _ => cases ht
    | own _ => rfl
    | bag _ => rfl
    | raw _ => cases ht
  have ho' : isOwn (reOwn t ds) = true := by
    cases t with
    | nil => cases ht
    | dat _ => cases ht
    | own _ => rfl
    | bag _ => rfl
    | raw _ => cases ht
  have hl : i < ρ.length := (List.getElem?_eq_some_iff.mp hi).1
  obtain ⟨oa, vs, va⟩ := g.wof ⟨i, t, hi, ho, ha⟩
  have kp : Keep (Wof σ ρ) H H' := ⟨fun b o e n => s b o (fun z => n ⟨i, t, hi, ho, by rw [z]; exact ha⟩) e, fun b us e => by
    by_cases hb : b = a
    · exact ⟨ws, by rw [hb]; exact ha'⟩
    · exact ⟨us, s b _ hb e⟩⟩
  have mv := g.mv (O' := O) kp fun _ h => .inl h
  have hw : ∀ (j : Nat) u, (ρ.set i (reOwn t ds))[j]? = some u → isOwn u = true → ∃ u', ρ[j]? = some u' ∧ isOwn u' = true := fun j u e q => by
    by_cases hj : i = j
    · subst hj; exact ⟨t, hi, ho⟩
    · rw [get_set_ne hj] at e; exact ⟨u, e, q⟩
  have gd : Good B O σ H' (ρ.set i (reOwn t ds)) := by
    refine ⟨by simp [g.len], fun b o e n => ?_, g.o0, g.r0, g.osub, fun b h => ?_, fun b h => ?_, fun j u e => ?_, fun j k u u' b e1 e2 q1 q2 e3 e4 => ?_⟩
    · refine s b o (fun z => ?_) (g.frame b o e n)
      subst z
      have k := g.slots i t hi
      cases t with
      | nil => cases ht
      | dat _ => cases ht
      | own _ => obtain ⟨b', us, e1, _, _, h3, _⟩ := k; rw [ha] at e1; cases e1; rw [h3] at e; cases e
      | bag _ => obtain ⟨b', us, e1, h1, _⟩ := k; rw [ha] at e1; cases e1; exact n h1
      | raw _ => cases ht
    · exact kp.ne (fun c z => (g.wof z).2) (g.otrk b h)
    · exact kp.ne (fun c z => (g.wof z).2) (g.h0 b h)
    · by_cases hj : i = j
      · subst hj
        rw [List.getElem?_set_self hl] at e
        cases e
        have k := g.slots i t hi
        cases t with
        | nil => cases ht
        | dat _ => cases ht
        | own _ => obtain ⟨b', us, e1, h1, h2, h3, _⟩ := k; rw [ha] at e1; cases e1; exact ⟨a, ws, ha, h1, h2, h3, ha', r⟩
        | bag _ => obtain ⟨b', us, e1, h1, h2, _⟩ := k; rw [ha] at e1; cases e1; exact ⟨a, ws, ha, h1, h2, ha', r⟩
        | raw _ => cases ht
      · rw [get_set_ne hj] at e
        have k := g.slots j u e
        cases u with
        | nil => trivial
        | dat d => exact SlOk.mv mv rfl k
        | own fs =>
          obtain ⟨b, us, e1, h1, h2, h3, h4, r4⟩ := k
          have hb : b ≠ a := fun z => hj (g.sep i j t _ b hi e ho rfl (by rw [z]; exact ha) e1)
          exact ⟨b, us, e1, h1, h2, h3, s b _ hb h4, RepL.mv mv _ _ r4⟩
        | bag fs =>
          obtain ⟨b, us, e1, h1, h2, h4, r4⟩ := k
          have hb : b ≠ a := fun z => hj (g.sep i j t _ b hi e ho rfl (by rw [z]; exact ha) e1)
          exact ⟨b, us, e1, h1, h2, s b _ hb h4, RepL.mv mv _ _ r4⟩
        | raw v => exact k
    · obtain ⟨x1, y1, z1⟩ := hw j u e1 q1
      obtain ⟨x2, y2, z2⟩ := hw k u' e2 q2
      exact g.sep j k x1 x2 b y1 y2 z1 z2 e3 e4
  refine ⟨kp, fun b ⟨j, u, e, q, e3⟩ => ?_, gd⟩
  obtain ⟨x1, y1, z1⟩ := hw j u e q
  exact ⟨j, x1, y1, z1, e3⟩
theorem Good.ownAt (g : Good B O σ H ρ) {i : Nat} {t : Sl} {es : List D} (hi : ρ[i]? = some t) (ht : ownOf t = some es) : ∃ a vs, σ[i]? = some (some (.ref a)) ∧ O a ∧ H a = some (.lst vs) ∧ RepL O H es vs := by
  have k := g.slots i t hi
  cases t with
  | nil => cases ht
  | dat _ => cases ht
  | own _ => cases ht; obtain ⟨b', us, e1, h1, h2, h3, h4, r⟩ := k; exact ⟨b', us, e1, h1, h4, r⟩
  | bag _ => cases ht; obtain ⟨b', us, e1, h1, h2, h4, r⟩ := k; exact ⟨b', us, e1, h2, h4, r⟩
  | raw _ => cases ht
end
/-! ### blocks -/
@[simp] def seqF (F G : Rho → Option Out) : Rho → Option Out := fun ρ => (F ρ).bind fun r => match r with
  | .nx ρ1 => G ρ1
  | .rt d ρ1 => some (.rt d ρ1)
@[simp] def skipF : Rho → Option Out := fun ρ => some (.nx ρ)
@[simp] def setF (i : Nat) (f : Rho → Option (D × Rho)) : Rho → Option Out := fun ρ => (f ρ).bind fun p => some (.nx (p.2.set i (.dat p.1)))
@[simp] def setP (i : Nat) (g : Rho → Option D) : Rho → Option Out := fun ρ => (g ρ).bind fun d => some (.nx (ρ.set i (.dat d)))
@[simp] def setO (i : Nat) (g : Rho → Option D) : Rho → Option Out := fun ρ => (g ρ).bind fun d => match d with
  | .list ds => some (.nx (ρ.set i (.own ds)))
  | _ => none
@[simp] def retP (g : Rho → Option D) : Rho → Option Out := fun ρ => (g ρ).bind fun d => some (.rt d ρ)
@[simp] def retE (f : Rho → Option (D × Rho)) : Rho → Option Out := fun ρ => (f ρ).bind fun p => some (.rt p.1 p.2)
@[simp] def dropE (f : Rho → Option (D × Rho)) : Rho → Option Out := fun ρ => (f ρ).bind fun p => some (.nx p.2)
@[simp] def iteF (c : Rho → Option (Bool × Rho)) (F G : Rho → Option Out) : Rho → Option Out := fun ρ => (c ρ).bind fun p => if p.1 = true then F p.2 else G p.2
@[simp] def neverF : Rho → Option Out := fun _ => none
@[simp] def appF (i : Nat) (g : Rho → Option D) : Rho → Option Out := fun ρ => (g ρ).bind fun d => (ρ[i]?).bind fun t => (ownOf t).bind fun es => if es.length < 100000 then some (.nx (ρ.set i (reOwn t (es ++ [d])))) else none
@[simp] def subF (i : Nat) (gk g : Rho → Option D) : Rho → Option Out := fun ρ => (g ρ).bind fun d => (gk ρ).bind fun k => (asInt k).bind fun k => (ρ[i]?).bind fun t => (ownOf t).bind fun es => (ixN es.length k).bind fun j => some (.nx (ρ.set i (reOwn t (es.set j d))))
@[simp] def drwE (i : Nat) (fs : Rho → Option (List D × Rho)) (F : List D → List D → Option (D × List D)) : Rho → Option (D × Rho) := fun ρ => (ρ[i]?).bind fun t0 => (ownOf t0).bind fun _ => (fs ρ).bind fun p => (p.2[i]?).bind fun t => (ownOf t).bind fun es => (F es p.1).bind fun q => some (q.1, p.2.set i (reOwn t q.2))
section
variable {X : Cx} {B : Base} {m : Md} {e : Expr} {es : List Expr} {st : Stmt} {sts tts : List Stmt} {F G : Rho → Option Out} {g gk : Rho → Option D} {f : Rho → Option (D × Rho)} {c : Rho → Option (Bool × Rho)} {pos p p' : Pos}
theorem ds_nil : DSs X B [] skipF := ⟨pss_nil.imp fun E σ H ⟨O, ρ, r, gd, e, q⟩ => by
  cases e
  exact q σ H O .refl gd⟩
theorem ds_cons (h : DS X B st F) (h2 : DSs X B sts G) : DSs X B (st :: sts) (seqF F G) := ⟨(pss_cons h.ps h2.ps).imp fun E σ H ⟨O, ρ, r, gd, e, q⟩ => by
  obtain ⟨r1, e1, e2⟩ := bind_some e
  refine ⟨O, ρ, r1, gd, e1, ?_⟩
  cases r1 with
  | nx ρ1 => exact fun σ1 H1 O1 s1 g1 => ⟨O1, ρ1, r, g1, e2, q.after gd s1⟩
  | rt d ρ1 => cases e2; exact q⟩
theorem ds_one (h : DS X B st F) : DSs X B [st] F := ⟨pss_one h.ps⟩
theorem ds_never : DS X B st neverF := ⟨⟨fun _ _ _ _ _ _ ⟨_, _, _, _, e, _⟩ => nomatch e⟩⟩
theorem ds_pass : DS X B (.Pass pos) skipF := ⟨ps_pass.imp fun E σ H ⟨O, ρ, r, gd, e, q⟩ => by
  cases e
  exact q σ H O .refl gd⟩
theorem ds_set {i : Nat} {x : Str} (hN : X.N.Nodup) (hi : X.N[i]? = some x) (hx : Loc X.env.scope x) (he : DE X B e f) (hs : swapsWith e (some (.Name x p')) pos.line X.env = pure false := by rfl) (hf : X.fn x = true ∨ X.env.scope.names.lookup x = some .local := by first | exact .inl rfl | exact .inr rfl | assumption) :
    DS X B (.Assign [.Name x p'] e pos) (setF i f) := ⟨(ps_set hN hi hx he.pe hs hf).imp fun E σ H ⟨O, ρ, r, gd, e, q⟩ => by
  obtain ⟨⟨d, ρ1⟩, e1, e2⟩ := bind_some e
  cases e2
  refine ⟨O, ρ, d, ρ1, gd, e1, fun v H1 s1 r1 => ?_⟩
  obtain ⟨g2, w2⟩ := s1.good.set (i := i) r1
  exact q _ H1 O ⟨s1.keep, fun _ h => .inl h, fun _ h => h, fun b h => .inl (s1.w b (w2 b h))⟩ g2⟩
theorem ds_setP {i : Nat} {x : Str} (hN : X.N.Nodup) (hi : X.N[i]? = some x) (hx : Loc X.env.scope x) (he : DP X B .str e g) (hs : swapsWith e (some (.Name x p')) pos.line X.env = pure false := by rfl) (hf : X.fn x = true ∨ X.env.scope.names.lookup x = some .local := by first | exact .inl rfl | exact .inr rfl | assumption) :
    DS X B (.Assign [.Name x p'] e pos) (setP i g) := ⟨(ps_set hN hi hx he.pe hs hf).imp fun E σ H ⟨O, ρ, r, gd, e, q⟩ => by
  obtain ⟨d, e1, e2⟩ := bind_some e
  cases e2
  refine ⟨O, ρ, d, gd, e1, fun v H1 s1 r1 => ?_⟩
  obtain ⟨g2, w2⟩ := (gd.same s1).set (i := i) r1
  exact q _ H1 O ⟨.of s1, fun _ h => .inl h, fun _ h => h, fun b h => .inl (w2 b h)⟩ g2⟩
theorem ds_ret (he : DP X B .bas e g) : DS X B (.Return (some e) pos) (retP g) := ⟨(ps_ret he.pe).imp fun E σ H ⟨O, ρ, r, gd, e, q⟩ => by
  obtain ⟨d, e1, e2⟩ := bind_some e
  cases e2
  exact ⟨O, ρ, d, gd, e1, fun v H1 s1 r1 => q v σ H1 O ⟨.of s1, fun _ h => .inl h, fun _ h => h, fun b h => .inl h⟩ (gd.same s1) r1⟩⟩
theorem ds_retE (he : DE X B e f) : DS X B (.Return (some e) pos) (retE f) := ⟨(ps_ret he.pe).imp fun E σ H ⟨O, ρ, r, gd, e, q⟩ => by
  obtain ⟨⟨d, ρ1⟩, e1, e2⟩ := bind_some e
  cases e2
  exact ⟨O, ρ, d, ρ1, gd, e1, fun v H1 s1 r1 => q v σ H1 O (.ext s1) s1.good (r1.less gd.osub)⟩⟩
theorem ds_expr (he : DE X B e f) (hs : swapsWith e none pos.line X.env = pure false := by rfl) : DS X B (.Expr e pos) (dropE f) := ⟨(ps_expr he.pe hs).imp fun E σ H ⟨O, ρ, r, gd, e, q⟩ => by
  obtain ⟨⟨d, ρ1⟩, e1, e2⟩ := bind_some e
  cases e2
  exact ⟨O, ρ, d, ρ1, gd, e1, fun v H1 s1 r1 => q σ H1 O (.ext s1) s1.good⟩⟩
theorem ds_if (hc : DET X B e c) (h1 : DSs X B sts F) (h2 : DSs X B tts G) : DS X B (.If e sts tts pos) (iteF c F G) := ⟨(ps_if hc.pt h1.ps h2.ps).imp fun E σ H ⟨O, ρ, r, gd, e, q⟩ => by
  obtain ⟨⟨k, ρ1⟩, e1, e2⟩ := bind_some e
  refine ⟨O, ρ, k, ρ1, gd, e1, fun H1 s1 => ?_⟩
  cases k with
  | true => exact ⟨O, ρ1, r, s1.good, e2, q.after gd (.ext s1)⟩
  | false => exact ⟨O, ρ1, r, s1.good, e2, q.after gd (.ext s1)⟩⟩
/-- x.append(e), x a name with a list of its own -/
theorem ds_app {i : Nat} {x : Str} {apos xpos cpos : Pos} (hN : X.N[i]? = some x) (he : DP X B .str e g) (hv : Vis X.env.scope x := by first | exact Or.inl rfl | exact Or.inr (Or.inl rfl) | exact Or.inr (Or.inr rfl)) (hd : (x == ("__debug__" : Str)) = false := by decide)
    (hcd : (x == ("__classdict__" : Str)) = false := by decide)
    (hpe : ∀ {to : TE} {t : TA}, PE X (.Name x xpos) to → PA X [e] t → PE X (.Call (.Attribute (.Name x xpos) "append" apos) [e] [] cpos) (tBM X.K "list" rAppend to t) := by
      intro to t h1 h2; exact pe_bm PySem.F.plainAttrs_list PySem.F.slot_list_append PySem.F.type_list_append mt_append h1 h2)
    (hs : swapsWith (.Call (.Attribute (.Name x xpos) "append" apos) [e] [] cpos) none pos.line X.env = pure false := by rfl) (hst : starEach [e] X.env = [(false, eval e X.env)] := by rfl) :
    DS X B (.Expr (.Call (.Attribute (.Name x xpos) "append" apos) [e] [] cpos) pos) (appF i g) := ⟨(ps_expr (hpe (pv i hN hv hd hcd) (pa_cons he.pe pa_nil hst)) hs).imp fun E σ H ⟨O, ρ, r, gd, e, q⟩ => by
  obtain ⟨d, e1, e2⟩ := bind_some e
  obtain ⟨t, e3, e4⟩ := bind_some e2
  obtain ⟨fs, e5, e6⟩ := bind_some e4
  split at e6
  · next hl =>
    cases e6
    obtain ⟨a, vs, h1, h2, h3, h4⟩ := gd.ownAt e3 e5
    refine ⟨_, h1, .inl ⟨rfl, vs, .of h3⟩, O, ρ, d, gd, e1, fun v H1 s1 r1 => ?_⟩
    refine ⟨a, vs, v, rfl, rfl, s1 a _ h3, ?_, ?_⟩
    · rw [← h4.length, sizeLine_eq]; omega
    · have g1 := gd.same s1
      have m2 : Mv O H1 O (upd H1 a (.lst (vs ++ [v]))) := ⟨fun b o e q => by
        rw [upd_ne]
        · exact e
        · rintro rfl
          rcases q with q | q
          · rw [s1 _ _ h3] at e; cases e; exact q vs rfl
          · exact q h2, fun _ h => .inl h⟩
      have x := g1.put (H' := upd H1 a (.lst (vs ++ [v]))) e3 e5 h1 (fun b o hb e => by rw [upd_ne hb]; exact e) upd_same (RepL.mv m2 _ _ ((h4.same s1).append (.one r1)))
      exact q σ _ O (.ext ((Ext.of gd s1).trans x)) x.good
  · cases e6⟩
/-- x[k] = e, x a name with a list of its own -/
theorem ds_sub {i : Nat} {x : Str} {k : Expr} {xpos spos : Pos} (hN : X.N[i]? = some x) (hk : DP X B .str k gk) (he : DP X B .str e g) (hv : Vis X.env.scope x := by first | exact Or.inl rfl | exact Or.inr (Or.inl rfl) | exact Or.inr (Or.inr rfl)) (hd : (x == ("__debug__" : Str)) = false := by decide)
    (hcd : (x == ("__classdict__" : Str)) = false := by decide)
    (hps : ∀ {to ti te : TE}, PE X (.Name x xpos) to → PE X k ti → PE X e te → PS X (.Assign [.Subscript (.Name x xpos) k spos] e pos) (tAsg te (gSub to ti rSetL)) := by
      intro to ti te h1 h2 h3; exact ps_asg h3 (pg_sub h1 h2 set_list)) :
    DS X B (.Assign [.Subscript (.Name x xpos) k spos] e pos) (subF i gk g) := ⟨(hps (pv i hN hv hd hcd) hk.pe he.pe).imp fun E σ H ⟨O, ρ, r, gd, e, q⟩ => by
  obtain ⟨d, e1, e2⟩ := bind_some e
  obtain ⟨kd, e3, e4⟩ := bind_some e2
  obtain ⟨n, e5, e6⟩ := bind_some e4
  obtain ⟨t, e7, e8⟩ := bind_some e6
  obtain ⟨fs, e9, e10⟩ := bind_some e8
  obtain ⟨j, e11, e12⟩ := bind_some e10
  cases e12
  have ek : kd = .int n := by
    unfold asInt at e5
    split at e5
    · cases e5; rfl
    · cases e5
  subst ek
  obtain ⟨a, vs, h1, h2, h3, h4⟩ := gd.ownAt e7 e9
  refine ⟨O, ρ, d, gd, e1, fun v H1 s1 r1 => ⟨_, h1, O, ρ, _, gd.same s1, e3, fun w H2 s2 r2 => ?_⟩⟩
  refine ⟨a, vs, n, j, rfl, rep_int.mp r2, s2 a _ (s1 a _ h3), by rw [← h4.length]; exact e11, ?_⟩
  have s12 := s1.trans s2
  have g1 := gd.same s12
  have m2 : Mv O H2 O (upd H2 a (.lst (vs.set j v))) := ⟨fun b o e q => by
    rw [upd_ne]
    · exact e
    · rintro rfl
      rcases q with q | q
      · rw [s12 _ _ h3] at e; cases e; exact q vs rfl
      · exact q h2, fun _ h => .inl h⟩
  have x := g1.put (H' := upd H2 a (.lst (vs.set j v))) e7 e9 h1 (fun b o hb e => by rw [upd_ne hb]; exact e) upd_same (RepL.mv m2 _ _ (RepL.set (r1.same s2) j (h4.same s12)))
  exact q σ _ O (.ext ((Ext.of gd s12).trans x)) x.good⟩
end
end DL

namespace DL
open PySem PySem.Spec
open PyProof.Rows hiding St
open L2
/-! ## targets -/
def tG (B : Base) (is : List Nat) (bind : D → Rho → Option Rho) : TG := fun v σ H Q => ∃ O ρ d ρ', Good B O σ H ρ ∧ Rep O H d v ∧ bind d ρ = some ρ' ∧
  ∀ σ', Good B O σ' H ρ' → (∀ b, Wof σ' ρ' b → Wof σ ρ b) → (∀ j, j ∉ is → σ'[j]? = σ[j]?) → σ'.length = σ.length → Q σ' H
def tGs (B : Base) (is : List Nat) (bind : List D → Rho → Option Rho) : TGs := fun vs σ H Q => ∃ O ρ ds ρ', Good B O σ H ρ ∧ RepL O H ds vs ∧ bind ds ρ = some ρ' ∧
  ∀ σ', Good B O σ' H ρ' → (∀ b, Wof σ' ρ' b → Wof σ ρ b) → (∀ j, j ∉ is → σ'[j]? = σ[j]?) → σ'.length = σ.length → Q σ' H
structure DG (X : Cx) (B : Base) (tg : Expr) (is : List Nat) (bind : D → Rho → Option Rho) : Prop where
  pg : PG X tg (tG B is bind)
structure DGs (X : Cx) (B : Base) (tgs : List Expr) (is : List Nat) (bind : List D → Rho → Option Rho) : Prop where
  pgs : PGs X tgs (tGs B is bind)
@[simp] def bName (i : Nat) : D → Rho → Option Rho := fun d ρ => some (ρ.set i (.dat d))
@[simp] def bNil : List D → Rho → Option Rho := fun ds ρ => match ds with
  | [] => some ρ
  | _ => none
@[simp] def bCons (b : D → Rho → Option Rho) (bs : List D → Rho → Option Rho) : List D → Rho → Option Rho := fun ds ρ => match ds with
  | d :: ds => (b d ρ).bind fun ρ1 => bs ds ρ1
  | [] => none
@[simp] def bTup (n : Nat) (bs : List D → Rho → Option Rho) : D → Rho → Option Rho := fun d ρ => match d with
  | .tuple ds => if ds.length = n then bs ds ρ else none
  | _ => none
theorem _root_.L2.PG.imp {X : Cx} {e : Expr} {t t' : TG} (h : PG X e t) (i : ∀ v σ H Q, t' v σ H Q → t v σ H Q) : PG X e t' := ⟨fun pins s σ H v u Q I r q => h.run pins s σ H v u Q I r (i v σ H Q q)⟩
theorem _root_.L2.PGs.imp {X : Cx} {e : List Expr} {t t' : TGs} (h : PGs X e t) (i : ∀ v σ H Q, t' v σ H Q → t v σ H Q) : PGs X e t' := ⟨fun pins s σ H v u Q I r q => h.run pins s σ H v u Q I r (i v σ H Q q)⟩
theorem _root_.L2.PI.imp {X : Cx} {tg e : Expr} {t t' : TI} (h : PI X tg e t) (i : ∀ σ H Q, t' σ H Q → t σ H Q) : PI X tg e t' := ⟨fun pins s σ H Q I q => h.run pins s σ H Q I (i σ H Q q)⟩
theorem _root_.L2.PI.or {X : Cx} {tg e : Expr} {t t' : TI} (h : PI X tg e t) (h' : PI X tg e t') : PI X tg e (fun σ H Q => t σ H Q ∨ t' σ H Q) := ⟨fun pins s σ H Q I q => q.elim (fun q => h.run pins s σ H Q I q) fun q => h'.run pins s σ H Q I q⟩
section
variable {X : Cx} {B : Base} {e : Expr} {es : List Expr} {is js : List Nat} {b : D → Rho → Option Rho} {bs : List D → Rho → Option Rho} {pos : Pos}
theorem dg_name {i : Nat} {x : Str} (hN : X.N.Nodup) (hi : X.N[i]? = some x) (hx : Loc X.env.scope x) (hf : X.fn x = true ∨ X.env.scope.names.lookup x = some .local := by first | exact .inl rfl | exact .inr rfl | assumption) : DG X B (.Name x pos) [i] (bName i) :=
  ⟨(pg_name hN hi hx hf).imp fun v σ H Q ⟨O, ρ, d, ρ', gd, r, e, q⟩ => by
    cases e
    obtain ⟨g2, w2⟩ := gd.set (i := i) r
    exact q _ g2 w2 (fun j hj => get_set_ne (fun z => hj (by simp [z]))) (by simp)⟩
theorem dgs_nil : DGs X B [] [] bNil := ⟨pgs_nil.imp fun vs σ H Q ⟨O, ρ, ds, ρ', gd, r, e, q⟩ => by
  unfold bNil at e
  split at e
  · cases e
    simp only [RepL] at r
    exact ⟨r, q σ gd (fun _ h => h) (fun _ _ => rfl) rfl⟩
  · cases e⟩
theorem dgs_cons (h : DG X B e is b) (h2 : DGs X B es js bs) (hs : (assignEach (e :: es) X.env).map (·.2) = assign e X.env :: (assignEach es X.env).map (·.2) := by rfl) : DGs X B (e :: es) (is ++ js) (bCons b bs) :=
  ⟨(pgs_cons h.pg h2.pgs hs).imp fun vs σ H Q ⟨O, ρ, ds, ρ', gd, r, e, q⟩ => by
    unfold bCons at e
    split at e
    · next d ds' =>
      obtain ⟨ρ1, e1, e2⟩ := bind_some e
      simp only [RepL] at r
      obtain ⟨v, ws, rfl, r1, r2⟩ := r
      refine ⟨v, ws, rfl, O, ρ, d, ρ1, gd, r1, e1, fun σ1 g1 w1 s1 l1 => ⟨O, ρ1, ds', ρ', g1, r2, e2, fun σ2 g2 w2 s2 l2 => ?_⟩⟩
      exact q σ2 g2 (fun c h => w1 c (w2 c h)) (fun j hj => by
        simp only [List.mem_append, not_or] at hj
        rw [s2 j hj.2, s1 j hj.1]) (l2.trans l1)
    · cases e⟩
theorem dg_tup {n : Nat} {k} (hc : X.calm = true) (h : DGs X B es is bs) (hn : (assignEach es X.env).length = n := by rfl) (hst : (assignEach es X.env).findIdx? (·.1) = none := by rfl) : DG X B (.Tuple es k pos) is (bTup n bs) :=
  ⟨(pg_tup hc h.pgs hn hst).imp fun v σ H Q ⟨O, ρ, d, ρ', gd, r, e, q⟩ => by
    unfold bTup at e
    split at e
    · next ds =>
      split at e
      · next hl =>
        simp only [Rep] at r
        obtain ⟨a, vs, rfl, ha, r⟩ := r
        exact ⟨a, vs, rfl, .of ha, by rw [← r.length]; exact hl, O, ρ, ds, ρ', gd, r, e, q⟩
      · cases e
    · cases e⟩
end
/-! ## what is walked -/
def Src (O : Addr → Prop) (H : Hp) (J : It) (ds : List D) : Prop := ∃ G : (Addr → Prop) → Hp → Prop, G O H ∧ (∀ O H O' H', Mv O H O' H' → G O H → G O' H') ∧ (∀ i O H, i < ds.length → G O H → J.go i H) ∧ (∀ O H, G O H → J.stop ds.length H) ∧
  ∀ i O H x H', i < ds.length → Otr O H → G O H → J.yld i H x H' → ∃ d, ds[i]? = some d ∧ Same H H' ∧ Rep O H' d x
def tIt (B : Base) (gs : Rho → Option (List D)) : TI := fun σ H R => ∃ O ρ ds, Good B O σ H ρ ∧ gs ρ = some ds ∧ ∀ J H', Same H H' → Src O H' J ds → R J H'
def tItE (B : Base) (fs : Rho → Option (List D × Rho)) : TI := fun σ H R => ∃ O ρ ds ρ', Good B O σ H ρ ∧ fs ρ = some (ds, ρ') ∧ ∀ J H', Ext B O σ H ρ H' ρ' → Src O H' J ds → R J H'
structure DI (X : Cx) (B : Base) (tg e : Expr) (gs : Rho → Option (List D)) : Prop where
  pi : PI X tg e (tIt B gs)
structure DIE (X : Cx) (B : Base) (tg e : Expr) (fs : Rho → Option (List D × Rho)) : Prop where
  pi : PI X tg e (tItE B fs)
@[simp] def seqD : D → Option (List D)
  | .list ds => some ds
  | .tuple ds => some ds
  | _ => none
@[simp] def itD (g : Rho → Option D) : Rho → Option (List D) := fun ρ => (g ρ).bind seqD
@[simp] def itE (f : Rho → Option (D × Rho)) : Rho → Option (List D × Rho) := fun ρ => (f ρ).bind fun p => (seqD p.1).bind fun ds => some (ds, p.2)
@[simp] def toI (gs : Rho → Option (List D)) : Rho → Option (List D × Rho) := fun ρ => (gs ρ).bind fun ds => some (ds, ρ)
def rngL (lo : Int) (n : Nat) : List D := (List.range n).map fun (i : Nat) => .int (lo + (i : Int))
def rng1S : List D → Option (List D)
  | [.int j] => if -(2 ^ 62) ≤ j ∧ j < 2 ^ 62 then some (rngL 0 j.toNat) else none
  | _ => none
def rng2S : List D → Option (List D)
  | [.int i, .int j] => if -(2 ^ 62) ≤ i ∧ i < 2 ^ 62 ∧ -(2 ^ 62) ≤ j ∧ j < 2 ^ 62 then some (rngL i (j - i).toNat) else none
  | _ => none
/-- not to be unfolded by the kernel: it would count down from the bound -/
noncomputable def rng1 : List D → Option (List D) := Classical.choose (⟨rng1S, rfl⟩ : ∃ f, f = rng1S)
noncomputable def rng2 : List D → Option (List D) := Classical.choose (⟨rng2S, rfl⟩ : ∃ f, f = rng2S)
theorem rng1_def : rng1 = rng1S := Classical.choose_spec (⟨rng1S, rfl⟩ : ∃ f, f = rng1S)
theorem rng2_def : rng2 = rng2S := Classical.choose_spec (⟨rng2S, rfl⟩ : ∃ f, f = rng2S)
@[simp] def nI (gs : Rho → Option (List D)) (F : List D → Option (List D)) : Rho → Option (List D) := fun ρ => (gs ρ).bind F
@[simp] def nIE (fs : Rho → Option (List D × Rho)) (F : List D → Option (List D)) : Rho → Option (List D × Rho) := fun ρ => (fs ρ).bind fun p => (F p.1).bind fun ds => some (ds, p.2)
theorem src_list {K : PySem.W.Frag} {O : Addr → Prop} {H : Hp} {a : Addr} {vs : List V} {ds : List D} (no : ¬ O a) (ha : H a = some (.lst vs)) (r : RepL O H ds vs) : Src O H (Itl K a) ds := by
  refine ⟨fun O H => ¬ O a ∧ H a = some (.lst vs) ∧ RepL O H ds vs, ⟨no, ha, r⟩, fun O H O' H' m ⟨h1, h2, h3⟩ => ⟨fun z => ?_, m.keep a _ h2 (.inr h1), RepL.mv m _ _ h3⟩, fun i O H hi ⟨h1, h2, h3⟩ => ?_, fun O H ⟨h1, h2, h3⟩ => ?_, fun i O H x H' hi _ ⟨h1, h2, h3⟩ y => ?_⟩
  · rcases m.out a z with q | q
    · exact h1 q
    · rw [h2] at q; cases q
  · have hl := h3.length
    exact ⟨vs, vs[i], .of h2, by simp [← hl, hi]⟩
  · exact ⟨vs, .of h2, by rw [h3.length]; exact Nat.le_refl _⟩
  · obtain ⟨e, y⟩ := y
    subst e
    obtain ⟨d, e1, r1⟩ := h3.getV (y vs (.of h2))
    exact ⟨d, e1, Same.refl _, r1⟩
theorem src_tup {K : PySem.W.Frag} {O : Addr → Prop} {H : Hp} {a : Addr} {vs : List V} {ds : List D} (ha : H a = some (.tup vs)) (r : RepL O H ds vs) : Src O H (Itt K a) ds := by
  refine ⟨fun O H => H a = some (.tup vs) ∧ RepL O H ds vs, ⟨ha, r⟩, fun O H O' H' m ⟨h2, h3⟩ => ⟨m.keep a _ h2 (.inl fun us z => by cases z), RepL.mv m _ _ h3⟩, fun i O H hi ⟨h2, h3⟩ => ?_, fun O H ⟨h2, h3⟩ => ?_, fun i O H x H' hi _ ⟨h2, h3⟩ y => ?_⟩
  · have hl := h3.length
    exact ⟨vs, vs[i], .of h2, by simp [← hl, hi]⟩
  · exact ⟨vs, .of h2, by rw [h3.length]; exact Nat.le_refl _⟩
  · obtain ⟨e, y⟩ := y
    subst e
    obtain ⟨d, e1, r1⟩ := h3.getV (y vs (.of h2))
    exact ⟨d, e1, Same.refl _, r1⟩
theorem src_rng {O : Addr → Prop} {H : Hp} {lo : Int} {n : Nat} : Src O H (Itr lo n) (rngL lo n) := by
  refine ⟨fun _ _ => True, trivial, fun _ _ _ _ _ _ => trivial, fun i O H hi _ => ?_, fun O H _ => ?_, fun i O H x H' hi _ _ y => ?_⟩
  · show i < n
    simpa [rngL] using hi
  · show n ≤ _
    simp [rngL]
  · obtain ⟨e, y⟩ := y
    subst e y
    refine ⟨.int (lo + i), ?_, Same.refl _, rep_int.mpr rfl⟩
    have hi' : i < n := by simpa [rngL] using hi
    simp [rngL, hi']
section
variable {X : Cx} {B : Base} {tg e : Expr} {es : List Expr} {g : Rho → Option D} {f : Rho → Option (D × Rho)} {gs : Rho → Option (List D)} {fs : Rho → Option (List D × Rho)} {pos p : Pos}
theorem di_seq (h : DP X B .str e g) : DI X B tg e (itD g) := ⟨((pi_list h.pe).or (pi_tup h.pe)).imp fun σ H R ⟨O, ρ, ds, gd, e, q⟩ => by
  obtain ⟨d, e1, e2⟩ := bind_some e
  unfold seqD at e2
  split at e2
  · cases e2
    refine .inl ⟨O, ρ, _, gd, e1, fun v H1 s1 r1 => ?_⟩
    simp only [Rep] at r1
    obtain ⟨a, vs, rfl, no, ha, r⟩ := r1
    exact ⟨a, rfl, ⟨vs, .of ha⟩, q _ H1 s1 (src_list no ha r)⟩
  · cases e2
    refine .inr ⟨O, ρ, _, gd, e1, fun v H1 s1 r1 => ?_⟩
    simp only [Rep] at r1
    obtain ⟨a, vs, rfl, ha, r⟩ := r1
    exact ⟨a, rfl, ⟨vs, .of ha⟩, q _ H1 s1 (src_tup ha r)⟩
  · cases e2⟩
theorem die_seq (h : DE X B e f) : DIE X B tg e (itE f) := ⟨((pi_list h.pe).or (pi_tup h.pe)).imp fun σ H R ⟨O, ρ, ds, ρ', gd, e, q⟩ => by
  obtain ⟨⟨d, ρ1⟩, e1, e2⟩ := bind_some e
  obtain ⟨es, e3, e4⟩ := bind_some e2
  cases e4
  unfold seqD at e3
  split at e3
  · next he =>
    cases e3
    have he' : d = .list _ := he
    subst he'
    refine .inl ⟨O, ρ, _, _, gd, e1, fun v H1 s1 r1 => ?_⟩
    simp only [Rep] at r1
    obtain ⟨a, vs, rfl, no, ha, r⟩ := r1
    exact ⟨a, rfl, ⟨vs, .of ha⟩, q _ H1 s1 (src_list no ha r)⟩
  · next he =>
    cases e3
    have he' : d = .tuple _ := he
    subst he'
    refine .inr ⟨O, ρ, _, _, gd, e1, fun v H1 s1 r1 => ?_⟩
    simp only [Rep] at r1
    obtain ⟨a, vs, rfl, ha, r⟩ := r1
    exact ⟨a, rfl, ⟨vs, .of ha⟩, q _ H1 s1 (src_tup ha r)⟩
  · cases e3⟩
theorem die_of (h : DI X B tg e gs) : DIE X B tg e (toI gs) := ⟨h.pi.imp fun σ H R ⟨O, ρ, ds, ρ', gd, e, q⟩ => by
  obtain ⟨es, e1, e2⟩ := bind_some e
  cases e2
  exact ⟨O, ρ, _, gd, e1, fun J H1 s1 sr => q J H1 (.of gd s1) sr⟩⟩
theorem di_rng1 (hm : X.mg "range" = none) (ha : DPA X B .str [e] gs) (hg : Gl X "range" := by rfl) (hs : starEach [e] X.env = [(false, eval e X.env)] := by rfl) : DI X B tg (.Call (.Name "range" p) [e] [] pos) (nI gs rng1) := ⟨(pi_range1 hg hm ha.pa hs).imp fun σ H R ⟨O, ρ, ds, gd, e, q⟩ => by
  obtain ⟨es, e1, e2⟩ := bind_some e
  rw [rng1_def] at e2
  unfold rng1S at e2
  split at e2
  · split at e2
    · next hb =>
      cases e2
      refine ⟨O, ρ, _, gd, e1, fun vs H1 s1 r1 => ?_⟩
      simp only [RepL, rep_int] at r1
      obtain ⟨v, ws, rfl, rfl, rfl⟩ := r1
      exact ⟨_, rfl, hb.1, hb.2, q _ H1 s1 src_rng⟩
    · cases e2
  · cases e2⟩
theorem die_rng1 (hm : X.mg "range" = none) (ha : DEA X B [e] fs) (hg : Gl X "range" := by rfl) (hs : starEach [e] X.env = [(false, eval e X.env)] := by rfl) : DIE X B tg (.Call (.Name "range" p) [e] [] pos) (nIE fs rng1) := ⟨(pi_range1 hg hm ha.pa hs).imp fun σ H R ⟨O, ρ, ds, ρ', gd, e, q⟩ => by
  obtain ⟨⟨es, ρ1⟩, e1, e2⟩ := bind_some e
  obtain ⟨fs, e3, e4⟩ := bind_some e2
  cases e4
  rw [rng1_def] at e3
  unfold rng1S at e3
  split at e3
  · next he =>
    have he' : es = _ := he
    subst he'
    split at e3
    · next hb =>
      cases e3
      refine ⟨O, ρ, _, _, gd, e1, fun vs H1 s1 r1 => ?_⟩
      simp only [RepL, rep_int] at r1
      obtain ⟨v, ws, rfl, rfl, rfl⟩ := r1
      exact ⟨_, rfl, hb.1, hb.2, q _ H1 s1 src_rng⟩
    · cases e3
  · cases e3⟩
theorem di_rng2 {e2 : Expr} (hm : X.mg "range" = none) (ha : DPA X B .str [e, e2] gs) (hg : Gl X "range" := by rfl) (hs : starEach [e, e2] X.env = [(false, eval e X.env), (false, eval e2 X.env)] := by rfl) (hs2 : starEach [e2] X.env = [(false, eval e2 X.env)] := by rfl) :
    DI X B tg (.Call (.Name "range" p) [e, e2] [] pos) (nI gs rng2) := ⟨(pi_range2 hg hm ha.pa hs hs2).imp fun σ H R ⟨O, ρ, ds, gd, e, q⟩ => by
  obtain ⟨es, e1, e2⟩ := bind_some e
  rw [rng2_def] at e2
  unfold rng2S at e2
  split at e2
  · split at e2
    · next hb =>
      cases e2
      refine ⟨O, ρ, _, gd, e1, fun vs H1 s1 r1 => ?_⟩
      simp only [RepL, rep_int] at r1
      obtain ⟨v, ws, rfl, rfl, v2, ws2, rfl, rfl, rfl⟩ := r1
      exact ⟨_, _, rfl, hb, q _ H1 s1 src_rng⟩
    · cases e2
  · cases e2⟩
end
/-! ## for -/
@[simp] def forL (b : D → Rho → Option Rho) (F : Rho → Option Out) : List D → Rho → Option Out
  | [], ρ => some (.nx ρ)
  | d :: ds, ρ => (b d ρ).bind fun ρ1 => (F ρ1).bind fun r => match r with
    | .nx ρ2 => forL b F ds ρ2
    | .rt z ρ2 => some (.rt z ρ2)
@[simp] def forF (fs : Rho → Option (List D × Rho)) (b : D → Rho → Option Rho) (F : Rho → Option Out) : Rho → Option Out := fun ρ => (fs ρ).bind fun p => forL b F p.1 p.2
def whlL (c : Rho → Option (Bool × Rho)) (F : Rho → Option Out) : Nat → Rho → Option Out
  | 0, _ => none
  | n + 1, ρ => (c ρ).bind fun p => if p.1 = true then (F p.2).bind fun r => (match r with
    | .nx ρ2 => whlL c F n ρ2
    | .rt z ρ2 => some (.rt z ρ2)) else some (.nx p.2)
section
variable {X : Cx} {B : Base} {tg e : Expr} {sts : List Stmt} {is : List Nat} {b : D → Rho → Option Rho} {F : Rho → Option Out} {c : Rho → Option (Bool × Rho)} {fs : Rho → Option (List D × Rho)} {pos p : Pos}
theorem ds_for (hp : PassesOwn (model X.prog X.w) X.A X.env X.xe) (hc : X.calm = true) (hi : DIE X B tg e fs) (hg : DG X B tg is b) (hb : DSs X B sts F) (hs : ∀ x, foldedSetIterable e X.env x = pure x := by intro _; rfl) : DS X B (.For tg e sts [] pos) (forF fs b F) :=
  ⟨(ps_for hp hc hi.pi hg.pg hb.ps hs).imp fun E σ H ⟨O, ρ, r, gd, e, q⟩ => by
    obtain ⟨⟨ds, ρ0⟩, e1, e2⟩ := bind_some e
    refine ⟨O, ρ, ds, ρ0, gd, e1, fun J H0 x0 ⟨G, g0, gm, ggo, gst, gy⟩ => ?_⟩
    refine ⟨fun i m σi Hi => m = ds.length - i ∧ i ≤ ds.length ∧ ∃ Oi ρi, Good B Oi σi Hi ρi ∧ Stp O σ H ρ Oi σi Hi ρi ∧ G Oi Hi ∧ forL b F (ds.drop i) ρi = some r, ⟨ds.length, by simp, Nat.zero_le _, O, ρ0, x0.good, .ext x0, g0, by simpa using e2⟩, ?_⟩
    rintro i m σi Hi ⟨rfl, hi, Oi, ρi, gi, si, Gi, ei⟩
    by_cases hlt : i < ds.length
    · have ed : ds.drop i = ds[i] :: ds.drop (i + 1) := List.drop_eq_getElem_cons hlt
      rw [ed] at ei
      obtain ⟨ρ1, e3, e4⟩ := bind_some ei
      obtain ⟨r1, e5, e6⟩ := bind_some e4
      refine .inr ⟨ggo i Oi Hi hlt Gi, fun σ' H' => i + 1 ≤ ds.length ∧ ∃ O' ρ', Good B O' σ' H' ρ' ∧ Stp O σ H ρ O' σ' H' ρ' ∧ G O' H' ∧ forL b F (ds.drop (i + 1)) ρ' = some r, fun σ' H' ⟨h1, h2⟩ => ⟨ds.length - (i + 1), by omega, rfl, h1, h2⟩, fun x H1 y => ?_⟩
      obtain ⟨d, ed2, s1, rx⟩ := gy i Oi Hi x H1 hlt gi.otrk Gi y
      have ed3 : ds[i] = d := by
        rw [List.getElem?_eq_getElem hlt] at ed2
        exact Option.some.inj ed2
      subst ed3
      refine ⟨Oi, ρi, _, ρ1, gi.same s1, rx, e3, fun σ2 g2 w2 _ _ => ⟨Oi, ρ1, r1, g2, e5, ?_⟩⟩
      have st2 : Stp O σ H ρ Oi σ2 H1 ρ1 := si.trans gd ⟨.of s1, fun _ h => .inl h, fun _ h => h, fun b h => .inl (w2 b h)⟩
      cases r1 with
      | nx ρ2 =>
        exact fun σ' H' O' s3 g3 => ⟨hlt, O', ρ2, g3, st2.trans gd s3, gm _ _ _ _ (s3.mv g2) (gm _ _ _ _ (.same s1) Gi), e6⟩
      | rt z ρ2 =>
        cases e6
        exact fun v σ' H' O' s3 g3 r3 => q v σ' H' O' (st2.trans gd s3) g3 r3
    · have en : i = ds.length := by omega
      subst en
      rw [List.drop_length] at ei
      cases ei
      exact .inl ⟨gst Oi Hi Gi, q σi Hi Oi si gi⟩⟩
theorem ds_while {n : Nat} (hp : PassesOwn (model X.prog X.w) X.A X.env X.xe) (hc : DET X B e c) (hb : DSs X B sts F) : DS X B (.While e sts [] pos) (whlL c F n) :=
  ⟨(ps_while hp hc.pt hb.ps).imp fun E σ H ⟨O, ρ, r, gd, e, q⟩ => by
    refine ⟨fun m σi Hi => ∃ Oi ρi, Good B Oi σi Hi ρi ∧ Stp O σ H ρ Oi σi Hi ρi ∧ whlL c F m ρi = some r, ⟨n, O, ρ, gd, .refl, e⟩, ?_⟩
    rintro m σi Hi ⟨Oi, ρi, gi, si, ei⟩
    cases m with
    | zero => cases ei
    | succ m =>
      obtain ⟨⟨k, ρ1⟩, e1, e2⟩ := bind_some ei
      refine ⟨Oi, ρi, k, ρ1, gi, e1, fun H1 x1 => ?_⟩
      cases k with
      | false =>
        cases e2
        exact q σi H1 Oi (si.trans gd (.ext x1)) x1.good
      | true =>
        obtain ⟨r1, e3, e4⟩ := bind_some e2
        refine ⟨fun σ' H' => ∃ O' ρ', Good B O' σ' H' ρ' ∧ Stp O σ H ρ O' σ' H' ρ' ∧ whlL c F m ρ' = some r, fun σ' H' h => ⟨m, Nat.lt_succ_self m, h⟩, Oi, ρ1, r1, x1.good, e3, ?_⟩
        have st1 := si.trans gd (.ext x1)
        cases r1 with
        | nx ρ2 => exact fun σ' H' O' s3 g3 => ⟨O', ρ2, g3, st1.trans gd s3, e4⟩
        | rt z ρ2 =>
          cases e4
          exact fun v σ' H' O' s3 g3 r3 => q v σ' H' O' (st1.trans gd s3) g3 r3⟩
end
end DL

namespace DL
open PySem PySem.Spec
open PyProof.Rows hiding St
open L2
/-! ## defs by their bodies -/
@[simp] def startR (tot : Nat) (ds : List D) : Rho := ds.map Sl.dat ++ List.replicate (tot - ds.length) Sl.nil
@[simp] def runF (n tot : Nat) (b : Rho → Option Out) : List D → Option D := fun ds => if ds.length = n then (b (startR tot ds)).bind fun r => (match r with
  | .rt d _ => some d
  | .nx _ => some .none) else none
@[simp] def bagOf : Option Sl → Option (List D)
  | some (.bag bs) => some bs
  | _ => none
@[simp] def runB (n tot : Nat) (b : Rho → Option Out) : List D → List D → Option (D × List D) := fun bs ds => if ds.length = n then (b (.bag bs :: startR (tot - 1) ds)).bind fun r => (match r with
  | .rt d ρ => (bagOf ρ[0]?).bind fun bs' => some (d, bs')
  | .nx ρ => (bagOf ρ[0]?).bind fun bs' => some (.none, bs')) else none
def spB (F : List D → List D → Option (D × List D)) : Sp := fun vs H Q _ => ∃ b ws, vs = V.ref b :: ws ∧ ∃ O us bs ds r bs', Otr O H ∧ O b ∧ H b = some (.lst us) ∧ RepL O H bs us ∧ RepL O H ds ws ∧ F bs ds = some (r, bs') ∧
  ∀ v H' us', (∀ c o, c ≠ b → H c = some o → H' c = some o) → H' b = some (.lst us') → RepL O H' bs' us' → Rep O H' r v → Q v H'
structure BFn (P : Program) (w : World) (K : PySem.W.Frag) (mg : Str → Option Value) (base : Heap) (k : Nat) (x : Str) (F : List D → List D → Option (D × List D)) : Prop where
  ex : ∃ f fd ps, FnOk P w K mg base CX0 k f fd ps (spB F) ∧ mg x = some (.ref f) ∧ PySem.W.keepIn K (.ref f) = true ∧ Binds K fd ps []
theorem start_get {O : Addr → Prop} {H : Hp} {tot : Nat} {ds : List D} {vs : List V} (r : RepL O H ds vs) (N : List Str) (hN : N.length = tot) {i : Nat} {s : Sl} (e : (startR tot ds)[i]? = some s) : (∃ d, s = .dat d ∧ ∃ v, (L2.start N vs)[i]? = some (some v) ∧ Rep O H d v) ∨ s = .nil := by
  unfold startR at e
  by_cases hi : i < ds.length
  · left
    rw [List.getElem?_append_left (by simpa using hi), List.getElem?_map, List.getElem?_eq_getElem hi] at e
    cases e
    obtain ⟨v, e1, r1⟩ := r.get (List.getElem?_eq_getElem hi)
    refine ⟨_, rfl, v, ?_, r1⟩
    unfold L2.start
    have hl := r.length
    rw [List.getElem?_append_left (by simp; omega), List.getElem?_map, e1]
    rfl
  · right
    rw [List.getElem?_append_right (by simpa using hi), List.getElem?_replicate] at e
    split at e
    · cases e; rfl
    · cases e
section
variable {P : Program} {w : World} {K : PySem.W.Frag} {mg : Str → Option Value} {base : Heap}
theorem good_start {O : Addr → Prop} {H : Hp} {tot : Nat} {ds : List D} {vs : List V} {N : List Str} (t : Otr O H) (r : RepL O H ds vs) (hN : N.length = tot) (hl : ds.length ≤ tot) : Good ⟨H, O, fun _ => False⟩ O (L2.start N vs) H (startR tot ds) := by
  have hv := r.length
  have no : ∀ (i : Nat) s, (startR tot ds)[i]? = some s → isOwn s = false := fun i s e => by
    rcases start_get r N hN e with ⟨d, rfl, _⟩ | rfl
    · rfl
    · rfl
  refine ⟨by unfold L2.start startR; simp; omega, fun _ _ e _ => e, t, fun _ h => h.elim, fun _ h => h, t, fun _ h => h, fun i s e => ?_, fun i j s t b e1 _ q _ _ _ => by rw [no i s e1] at q; cases q⟩
  rcases start_get r N hN e with ⟨d, rfl, v, h1, h2⟩ | rfl
  · exact ⟨v, h1, h2⟩
  · trivial
theorem fn_mk {x : Str} {st : Stmt} {f : Addr} {fd : FuncData} {N ps : List Str} {k n tot : Nat} {b : Rho → Option Out} (F : L2.Fun K x x st f fd) (S : FnScope N ps (defScope st)) (bi : Binds K fd ps []) (hm : mg x = some (.ref f)) (hN : N.length = tot) (hn : ps.length = n)
    (hb : ∀ (B : Base) (cdv : Value) (A : Around) (outer : List PySem.Env) (s : Shared) (H : Hp) (E : XK), Room k (A.deeper (envOfC x (defScope st) s.heap.objs.size f cdv)) → DSs (cxOf CX0 P w K mg base N x (defScope st) f cdv A outer s H E).nox B (defBody st) b) :
    Fn P w K mg base (k + 1) x (runF n tot b) := by
  have hpl : ps.length ≤ N.length := by have := congrArg List.length S.pre; rw [List.length_take] at this; omega
  refine ⟨f, fd, ps, F.ok S (fun vs H Q E h => ?_) (fun cdv A outer s H vs Q E hr h => ?_), hm, F.kp, bi⟩
  · obtain ⟨O, ds, d, t, r, e, q⟩ := h
    unfold runF at e
    split at e
    · next hl => rw [← r.length, hl, hn]
    · cases e
  · obtain ⟨O, ds, d, t, r, e, q⟩ := h
    unfold runF at e
    split at e
    · next hl =>
      obtain ⟨o, e1, e2⟩ := bind_some e
      refine ⟨_, (hb ⟨H, O, fun _ => False⟩ cdv A outer s H E hr).ps, O, startR tot ds, o, good_start t r hN (by omega), e1, ?_⟩
      cases o with
      | nx ρ' =>
        cases e2
        exact fun σ' H' O' s3 g3 => q _ H' (fun b o e => g3.frame b o e fun z => z) (rep_none.mpr rfl)
      | rt z ρ' =>
        cases e2
        exact fun v σ' H' O' s3 g3 r3 => q v H' (fun b o e => g3.frame b o e fun z => z) r3
    · cases e
theorem bfn_mk {x : Str} {st : Stmt} {f : Addr} {fd : FuncData} {N ps : List Str} {k n tot : Nat} {b : Rho → Option Out} (F : L2.Fun K x x st f fd) (S : FnScope N ps (defScope st)) (bi : Binds K fd ps []) (hm : mg x = some (.ref f)) (hN : N.length = tot) (hn : ps.length = n + 1)
    (hb : ∀ (B : Base) (cdv : Value) (A : Around) (outer : List PySem.Env) (s : Shared) (H : Hp) (E : XK), Room k (A.deeper (envOfC x (defScope st) s.heap.objs.size f cdv)) → DSs (cxOf CX0 P w K mg base N x (defScope st) f cdv A outer s H E).nox B (defBody st) b) :
    BFn P w K mg base (k + 1) x (runB n tot b) := by
  have hpl : ps.length ≤ N.length := by have := congrArg List.length S.pre; rw [List.length_take] at this; omega
  refine ⟨f, fd, ps, F.ok S (fun vs H Q E h => ?_) (fun cdv A outer s H vs Q E hr h => ?_), hm, F.kp, bi⟩
  · obtain ⟨a, ws, rfl, O, us, bs, ds, d, bs', t, oa, ha, rb, r, e, q⟩ := h
    unfold runB at e
    split at e
    · next hl => rw [List.length_cons, ← r.length, hl, hn]
    · cases e
  · obtain ⟨a, ws, rfl, O, us, bs, ds, d, bs', t, oa, ha, rb, r, e, q⟩ := h
    unfold runB at e
    split at e
    · next hl =>
      obtain ⟨o, e1, e2⟩ := bind_some e
      obtain ⟨y, N', rfl⟩ : ∃ y N', N = y :: N' := by
        cases N with
        | nil => rw [hn] at hpl; simp at hpl
        | cons y N' => exact ⟨y, N', rfl⟩
      have hN' : N'.length = tot - 1 := by rw [List.length_cons] at hN; omega
      have hst : L2.start (y :: N') (.ref a :: ws) = some (.ref a) :: L2.start N' ws := by
        unfold L2.start
        simp
      have g1 := good_start (N := N') t r hN' (by rw [List.length_cons] at hpl; omega)
      have gd : Good ⟨H, O, fun b => b = a⟩ O (L2.start (y :: N') (.ref a :: ws)) H (.bag bs :: startR (tot - 1) ds) := by
        rw [hst]
        have no : ∀ (i : Nat) s, (startR (tot - 1) ds)[i]? = some s → isOwn s = false := fun i s e => by
          rcases start_get r N' hN' e with ⟨d, rfl, _⟩ | rfl
          · rfl
          · rfl
        refine ⟨by simp [g1.len], fun _ _ e _ => e, t, fun b h => by rw [show b = a from h]; exact oa, fun _ h => h, t, fun _ h => h, fun i s e => ?_, fun i j s t b e1 e2 q1 q2 _ _ => ?_⟩
        · cases i with
          | zero =>
            simp at e; subst e
            exact ⟨a, us, rfl, rfl, oa, ha, rb⟩
          | succ i =>
            have k := g1.slots i s (by simpa using e)
            have e' : (startR (tot - 1) ds)[i]? = some s := by simpa using e
            rcases start_get r N' hN' e' with ⟨d, rfl, v, h1, h2⟩ | rfl
            · exact ⟨v, by simpa using h1, h2⟩
            · trivial
        · cases i with
          | zero =>
            cases j with
            | zero => rfl
            | succ j => rw [no j t (by simpa using e2)] at q2; cases q2
          | succ i => rw [no i s (by simpa using e1)] at q1; cases q1
      refine ⟨_, (hb ⟨H, O, fun b => b = a⟩ cdv A outer s H E hr).ps, O, _, o, gd, e1, ?_⟩
      have fin : ∀ {ρ' : Rho} {σ' : St} {H' : Hp} {O' : Addr → Prop} {z : D} {v : V} {cs : List D}, bagOf ρ'[0]? = some cs → Good ⟨H, O, fun b => b = a⟩ O' σ' H' ρ' → (z, cs) = (d, bs') → Rep O H' z v → Q v H' := fun {ρ' σ' H' O' z v cs} e3 g3 e4 r3 => by
        cases e4
        unfold bagOf at e3
        split at e3
        · next e5 =>
          cases e3
          obtain ⟨a', us', h1, h2, h3, h4, h5⟩ := g3.slots 0 _ e5
          cases (show a' = a from h2)
          exact q v H' us' (fun c o hc e => g3.frame c o e hc) h4 (h5.less g3.osub) r3
        · cases e3
      cases o with
      | nx ρ' =>
        obtain ⟨cs, e3, e4⟩ := bind_some e2
        exact fun σ' H' O' s3 g3 => fin e3 g3 (Option.some.inj e4) (rep_none.mpr rfl)
      | rt z ρ' =>
        obtain ⟨cs, e3, e4⟩ := bind_some e2
        exact fun v σ' H' O' s3 g3 r3 => fin e3 g3 (Option.some.inj e4) r3
    · cases e
end
/-! ## a call that draws -/
section
variable {X : Cx} {B : Base} {m : Md} {a b c e : Expr} {es : List Expr} {g ga gb : Rho → Option D} {f : Rho → Option (D × Rho)} {gs : Rho → Option (List D)} {fs : Rho → Option (List D × Rho)} {pos p p' : Pos}
theorem de_drw {x y : Str} {i k j : Nat} {F : List D → List D → Option (D × List D)} (hF : BFn X.prog X.w X.K X.mg X.base k x F) (hr : Room j X.A) (hk : k ≤ j) (hN : X.N[i]? = some y) (ha : DEA X B es fs) (hg : Gl X x := by rfl) (hdb : (x == ("__debug__" : Str)) = false := by decide)
    (hv : Vis X.env.scope y := by first | exact Or.inl rfl | exact Or.inr (Or.inl rfl) | exact Or.inr (Or.inr rfl)) (hd : (y == ("__debug__" : Str)) = false := by decide) (hcd : (y == ("__classdict__" : Str)) = false := by decide)
    (he : starEach (.Name y p' :: es) X.env = (false, eval (.Name y p') X.env) :: starEach es X.env := by rfl) (hpl : (backTo pos (starEach es X.env)).any (·.1) = false := by rfl) : DE X B (.Call (.Name x p) (.Name y p' :: es) [] pos) (drwE i fs F) := by
  obtain ⟨fa, fd, ps, G, hm, kp, bi⟩ := hF.ex
  refine ⟨(pe_call G (hr.mono hk) hg hm kp bi .nil pass0 (pa_cons (pv i hN hv hd hcd) ha.pa he) hdb he hpl).imp fun σ H Q ⟨O, ρ, d, ρ', gd, e, q⟩ => ?_⟩
  obtain ⟨t0, e1, e2⟩ := bind_some e
  obtain ⟨es0, e3, e4⟩ := bind_some e2
  obtain ⟨⟨ds, ρ1⟩, e5, e6⟩ := bind_some e4
  obtain ⟨t, e7, e8⟩ := bind_some e6
  obtain ⟨bs, e9, e10⟩ := bind_some e8
  obtain ⟨⟨r, bs'⟩, e11, e12⟩ := bind_some e10
  cases e12
  obtain ⟨a, us, h1, _⟩ := gd.ownAt e1 e3
  refine ⟨_, h1, O, ρ, ds, ρ1, gd, e5, fun ws H1 x1 r1 => ?_⟩
  show spB F ((.ref a :: ws) ++ []) H1 Q E0
  rw [List.append_nil]
  obtain ⟨a', us1, h1', h2, h3, h4⟩ := x1.good.ownAt e7 e9
  rw [h1] at h1'; cases h1'
  exact ⟨a, ws, rfl, O, us1, bs, ds, r, bs', x1.good.otr .str, h2, h3, h4, r1, e11, fun v H2 us2 k1 k2 k3 k4 => q v H2 (x1.trans (x1.good.put e7 e9 h1 (fun c o hc e => k1 c o hc e) k2 k3)) k4⟩
/-! ## several targets -/
@[simp] def asgF (f : Rho → Option (D × Rho)) (b : D → Rho → Option Rho) : Rho → Option Out := fun ρ => (f ρ).bind fun p => (b p.1 p.2).bind fun ρ2 => some (.nx ρ2)
@[simp] def two : List D → Option (D × D)
  | [a, b] => some (a, b)
  | _ => none
@[simp] def three : List D → Option (D × D × D)
  | [a, b, c] => some (a, b, c)
  | _ => none
theorem two_some {ds : List D} {p : D × D} (h : two ds = some p) : ds = [p.1, p.2] := by
  unfold two at h
  split at h
  · cases h; rfl
  · cases h
theorem three_some {ds : List D} {p : D × D × D} (h : three ds = some p) : ds = [p.1, p.2.1, p.2.2] := by
  unfold three at h
  split at h
  · cases h; rfl
  · cases h
@[simp] def parF2 (i j : Nat) (fs : Rho → Option (List D × Rho)) : Rho → Option Out := fun ρ => (fs ρ).bind fun p => (two p.1).bind fun q => some (.nx ((p.2.set i (.dat q.1)).set j (.dat q.2)))
@[simp] def parF3 (i j k : Nat) (fs : Rho → Option (List D × Rho)) : Rho → Option Out := fun ρ => (fs ρ).bind fun p => (three p.1).bind fun q => some (.nx (((p.2.set i (.dat q.1)).set j (.dat q.2.1)).set k (.dat q.2.2)))
@[simp] def parDO (i j : Nat) (g : Rho → Option D) : Rho → Option Out := fun ρ => (g ρ).bind fun d => some (.nx ((ρ.set i (.dat d)).set j (.own [])))
@[simp] def parDOO (i j k : Nat) (g : Rho → Option D) : Rho → Option Out := fun ρ => (g ρ).bind fun d => some (.nx (((ρ.set i (.dat d)).set j (.own [])).set k (.own [])))
theorem ds_asg {tg : Expr} {is : List Nat} {b : D → Rho → Option Rho} (he : DE X B e f) (hg : DG X B tg is b) (hs : swapsWithSole [tg] e pos.line X.env = pure false := by rfl) (hw : swappedStores [tg] e X.env = pure none := by rfl)
    (h1 : (assignEach [tg] X.env).map (·.2) = [assign tg X.env] := by rfl) : DS X B (.Assign [tg] e pos) (asgF f b) := ⟨(ps_asg he.pe hg.pg hs hw h1).imp fun E σ H ⟨O, ρ, r, gd, e, q⟩ => by
  obtain ⟨⟨d, ρ1⟩, e1, e2⟩ := bind_some e
  obtain ⟨ρ2, e3, e4⟩ := bind_some e2
  cases e4
  refine ⟨O, ρ, d, ρ1, gd, e1, fun v H1 s1 r1 => ⟨O, ρ1, d, ρ2, s1.good, r1, e3, fun σ2 g2 w2 _ _ => ?_⟩⟩
  exact q σ2 H1 O ⟨s1.keep, fun _ h => .inl h, fun _ h => h, fun c h => .inl (s1.w c (w2 c h))⟩ g2⟩
section
variable {i j l : Nat} {x y z : Str} {px py pz pt : Pos} {kt k2 pt2}
theorem ds_par (hc : X.calm = true) (hN : X.N.Nodup) (hi : X.N[i]? = some x) (hj : X.N[j]? = some y) (hij : i ≠ j) (hx : X.env.scope.names.lookup x = some .local) (hy : X.env.scope.names.lookup y = some .local) (ha : DEA X B [a, b] fs)
    (hw : swappedStores [.Tuple [.Name x px, .Name y py] kt pt] (.Tuple [a, b] k2 pt2) X.env = pure (some [x, y])) (hs : swapsWithSole [.Tuple [.Name x px, .Name y py] kt pt] (.Tuple [a, b] k2 pt2) pos.line X.env = pure false := by rfl) :
    DS X B (.Assign [.Tuple [.Name x px, .Name y py] kt pt] (.Tuple [a, b] k2 pt2) pos) (parF2 i j fs) := ⟨(ps_par hc hN hi hj hij hx hy ha.pa hw hs).imp fun E σ H ⟨O, ρ, r, gd, e, q⟩ => by
  obtain ⟨⟨ds, ρ1⟩, e1, e2⟩ := bind_some e
  obtain ⟨⟨d1, d2⟩, e3, e4⟩ := bind_some e2
  cases two_some e3
  cases e4
  refine ⟨O, ρ, _, ρ1, gd, e1, fun vs H1 s1 r1 => ?_⟩
  simp only [RepL] at r1
  obtain ⟨v1, ws, rfl, q1, v2, ws2, rfl, q2, rfl⟩ := r1
  obtain ⟨g2, w2⟩ := s1.good.set (i := i) q1
  obtain ⟨g3, w3⟩ := g2.set (i := j) q2
  exact ⟨v1, v2, rfl, q _ H1 O ⟨s1.keep, fun _ h => .inl h, fun _ h => h, fun c h => .inl (s1.w c (w2 c (w3 c h)))⟩ g3⟩⟩
theorem ds_par3 (hc : X.calm = true) (hN : X.N.Nodup) (hi : X.N[i]? = some x) (hj : X.N[j]? = some y) (hl : X.N[l]? = some z) (hij : i ≠ j) (hil : i ≠ l) (hjl : j ≠ l) (hx : X.env.scope.names.lookup x = some .local) (hy : X.env.scope.names.lookup y = some .local) (hz : X.env.scope.names.lookup z = some .local) (ha : DEA X B [a, b, c] fs)
    (hw : swappedStores [.Tuple [.Name x px, .Name y py, .Name z pz] kt pt] (.Tuple [a, b, c] k2 pt2) X.env = pure (some [x, y, z])) (hs : swapsWithSole [.Tuple [.Name x px, .Name y py, .Name z pz] kt pt] (.Tuple [a, b, c] k2 pt2) pos.line X.env = pure false := by rfl) :
    DS X B (.Assign [.Tuple [.Name x px, .Name y py, .Name z pz] kt pt] (.Tuple [a, b, c] k2 pt2) pos) (parF3 i j l fs) := ⟨(L2.ps_par3 hc hN hi hj hl hij hil hjl hx hy hz ha.pa hw hs).imp fun E σ H ⟨O, ρ, r, gd, e, q⟩ => by
  obtain ⟨⟨ds, ρ1⟩, e1, e2⟩ := bind_some e
  obtain ⟨⟨d1, d2, d3⟩, e3, e4⟩ := bind_some e2
  cases three_some e3
  cases e4
  refine ⟨O, ρ, _, ρ1, gd, e1, fun vs H1 s1 r1 => ?_⟩
  simp only [RepL] at r1
  obtain ⟨v1, ws, rfl, q1, v2, ws2, rfl, q2, v3, ws3, rfl, q3, rfl⟩ := r1
  obtain ⟨g2, w2⟩ := s1.good.set (i := i) q1
  obtain ⟨g3, w3⟩ := g2.set (i := j) q2
  obtain ⟨g4, w4⟩ := g3.set (i := l) q3
  exact ⟨v1, v2, v3, rfl, q _ H1 O ⟨s1.keep, fun _ h => .inl h, fun _ h => h, fun c h => .inl (s1.w c (w2 c (w3 c (w4 c h))))⟩ g4⟩⟩
theorem own_nil {O : Addr → Prop} {H : Hp} {p : Addr} (hp : H p = none) : RepL (fun b => O b ∨ b = p) (upd H p (.lst [])) [] [] := .nil
theorem ds_parDO {lp : Pos} (hc : X.calm = true) (hN : X.N.Nodup) (hi : X.N[i]? = some x) (hj : X.N[j]? = some y) (hij : i ≠ j) (hx : X.env.scope.names.lookup x = some .local) (hy : X.env.scope.names.lookup y = some .local) (ha : DP X B .str a g)
    (hw : swappedStores [.Tuple [.Name x px, .Name y py] kt pt] (.Tuple [a, .List [] lp] k2 pt2) X.env = pure (some [x, y])) (hs : swapsWithSole [.Tuple [.Name x px, .Name y py] kt pt] (.Tuple [a, .List [] lp] k2 pt2) pos.line X.env = pure false := by rfl)
    (hs1 : starEach [a, .List [] lp] X.env = (false, eval a X.env) :: starEach [.List [] lp] X.env := by rfl) :
    DS X B (.Assign [.Tuple [.Name x px, .Name y py] kt pt] (.Tuple [a, .List [] lp] k2 pt2) pos) (parDO i j g) := ⟨(ps_par hc hN hi hj hij hx hy (pa_cons ha.pe (pa_cons (pe_lst pa_nil) pa_nil) hs1) hw hs).imp fun E σ H ⟨O, ρ, r, gd, e, q⟩ => by
  obtain ⟨d, e1, e2⟩ := bind_some e
  cases e2
  refine ⟨O, ρ, d, gd, e1, fun v H1 s1 r1 => ⟨Nat.zero_le _, fun p hp => ⟨v, .ref p, rfl, ?_⟩⟩⟩
  obtain ⟨g2, w2⟩ := (gd.same s1).set (i := i) r1
  obtain ⟨g3, s3⟩ := g2.setOwn (i := j) (ds := []) (same_upd hp) hp upd_same (own_nil hp)
  exact q _ _ _ (Stp.trans gd ⟨.of s1, fun _ h => .inl h, fun _ h => h, fun c h => .inl (w2 c h)⟩ s3) g3⟩
theorem ds_parDOO {lp lp2 : Pos} (hc : X.calm = true) (hN : X.N.Nodup) (hi : X.N[i]? = some x) (hj : X.N[j]? = some y) (hl : X.N[l]? = some z) (hij : i ≠ j) (hil : i ≠ l) (hjl : j ≠ l) (hx : X.env.scope.names.lookup x = some .local) (hy : X.env.scope.names.lookup y = some .local) (hz : X.env.scope.names.lookup z = some .local) (ha : DP X B .str a g)
    (hw : swappedStores [.Tuple [.Name x px, .Name y py, .Name z pz] kt pt] (.Tuple [a, .List [] lp, .List [] lp2] k2 pt2) X.env = pure (some [x, y, z])) (hs : swapsWithSole [.Tuple [.Name x px, .Name y py, .Name z pz] kt pt] (.Tuple [a, .List [] lp, .List [] lp2] k2 pt2) pos.line X.env = pure false := by rfl)
    (hs1 : starEach [a, .List [] lp, .List [] lp2] X.env = (false, eval a X.env) :: starEach [.List [] lp, .List [] lp2] X.env := by rfl) :
    DS X B (.Assign [.Tuple [.Name x px, .Name y py, .Name z pz] kt pt] (.Tuple [a, .List [] lp, .List [] lp2] k2 pt2) pos) (parDOO i j l g) := ⟨(L2.ps_par3 hc hN hi hj hl hij hil hjl hx hy hz (pa_cons ha.pe (pa_cons (pe_lst pa_nil) (pa_cons (pe_lst pa_nil) pa_nil)) hs1) hw hs).imp fun E σ H ⟨O, ρ, r, gd, e, q⟩ => by
  obtain ⟨d, e1, e2⟩ := bind_some e
  cases e2
  refine ⟨O, ρ, d, gd, e1, fun v H1 s1 r1 => ⟨Nat.zero_le _, fun p hp => ⟨Nat.zero_le _, fun p2 hp2 => ⟨v, .ref p, .ref p2, rfl, ?_⟩⟩⟩⟩
  obtain ⟨g2, w2⟩ := (gd.same s1).set (i := i) r1
  obtain ⟨g3, s3⟩ := g2.setOwn (i := j) (ds := []) (same_upd hp) hp upd_same (own_nil hp)
  obtain ⟨g4, s4⟩ := g3.setOwn (i := l) (ds := []) (same_upd hp2) hp2 upd_same (own_nil hp2)
  exact q _ _ _ (Stp.trans gd (Stp.trans gd ⟨.of s1, fun _ h => .inl h, fun _ h => h, fun c h => .inl (w2 c h)⟩ s3) s4) g4⟩
end
end
end DL

namespace DL
open PySem PySem.Spec
open PyProof.Rows hiding St
open L2
/-! ## the sources of draws -/
def wellL (c t : Int) : List Int := if c ≥ 10 ^ 18 then [c - 10 ^ 18, c % 2305843009213693951, t] else [0, c % 2305843009213693951, t]
def cellsOf (ns : List Int) (n : Nat) : List Int := ns.take n ++ [0]
def bagsL (k : Nat) : List Int → List (List Int)
  | [] => []
  | c :: cs => wellL c (977 * (k : Int)) :: bagsL (k + 1) cs
def intsD (ns : List Int) : List D := ns.map PyData.int
theorem bagsL_get : ∀ (cs : List Int) (k j : Nat), (bagsL k cs)[j]? = (cs[j]?).map fun c => wellL c (977 * ((k + j : Nat) : Int))
  | [], k, j => by simp [bagsL]
  | c :: cs, k, 0 => by simp [bagsL]
  | c :: cs, k, j + 1 => by
    simp only [bagsL, List.getElem?_cons_succ]
    rw [bagsL_get cs (k + 1) j]
    congr 1
    funext c
    congr 2
    omega
theorem bagsL_len : ∀ (cs : List Int) (k : Nat), (bagsL k cs).length = cs.length
  | [], k => rfl
  | c :: cs, k => by simp [bagsL, bagsL_len cs (k + 1)]
def spBags (K : PySem.W.Frag) : Sp := fun vs H Q _ => ∃ (a : Addr) (ns : List Int) (n : Nat), vs = [.ref a, .int n] ∧ SqL K H a (ns.map V.int) ∧ ns.length ≤ 63 ∧ n ≤ 63 ∧
  ∀ (p : Addr) (bs : List Addr) (H' : Hp), Same H H' → H p = none → H' p = some (.lst (bs.map V.ref)) → bs.length = (cellsOf ns n).length → bs.Nodup → p ∉ bs →
    (∀ (j : Nat) b c, bs[j]? = some b → (bagsL 0 (cellsOf ns n))[j]? = some c → H b = none ∧ H' b = some (.lst (c.map V.int))) → Q (.ref p) H'
theorem repL_ints {O : Addr → Prop} {H : Hp} : ∀ ns : List Int, RepL O H (intsD ns) (ns.map V.int)
  | [] => .nil
  | n :: ns => .cons (rep_int.mpr rfl) (repL_ints ns)
def lawL (i : Nat) (F : Rho → Option Out) : List (List Int) → Rho → Option Out
  | [], ρ => some (.nx ρ)
  | c :: cs, ρ => (F (ρ.set i (.own (intsD c)))).bind fun r => match r with
    | .nx ρ2 => lawL i F cs ρ2
    | .rt z ρ2 => some (.rt z ρ2)
def lawF (i l n : Nat) (a : Addr) (ns : List Int) (F : Rho → Option Out) : Rho → Option Out := fun ρ => match ρ[l]? with
  | some (.raw v) => if v = .ref a then lawL i F (bagsL 0 (cellsOf ns n)) ρ else none
  | _ => none
section
variable {B : Base} {O : Addr → Prop} {σ : St} {H H' : Hp} {ρ : Rho}
theorem Good.more (g : Good B O σ H ρ) {bs : List Addr} (s : Same H H') (h1 : ∀ b ∈ bs, H b = Option.none) (h2 : ∀ b ∈ bs, H' b ≠ Option.none) : Good B (fun b => O b ∨ b ∈ bs) σ H' ρ := by
  have mv : Mv O H (fun b => O b ∨ b ∈ bs) H' := ⟨fun b o e _ => s b o e, fun b h => h.elim .inl fun z => .inr (h1 b z)⟩
  refine ⟨g.len, fun b o e n => s b o (g.frame b o e n), g.o0, g.r0, fun b h => .inl (g.osub b h), fun b h => h.elim (fun z => s.ne (g.otrk b z)) (h2 b), fun b h => s.ne (g.h0 b h), fun i t e => ?_, g.sep⟩
  have k := g.slots i t e
  cases t with
  | nil => trivial
  | dat d => exact SlOk.mv mv rfl k
  | own ds => obtain ⟨a, vs, e, h1, h2, h3, h4, r⟩ := k; exact ⟨a, vs, e, .inl h1, h2, h3, s a _ h4, RepL.mv mv _ _ r⟩
  | bag ds => obtain ⟨a, vs, e, h1, h2, h4, r⟩ := k; exact ⟨a, vs, e, h1, .inl h2, s a _ h4, RepL.mv mv _ _ r⟩
  | raw v => exact k
theorem Good.adopt (g : Good B O σ H ρ) {i : Nat} {a : Addr} {ds : List D} {vs : List V} (h1 : O a) (h2 : ¬ B.O0 a) (h3 : B.H0 a = Option.none) (h4 : H a = some (.lst vs)) (r : RepL O H ds vs) (nw : ¬ Wof σ ρ a) :
    Good B O (σ.set i (some (.ref a))) H (ρ.set i (.own ds)) ∧ ∀ b, Wof (σ.set i (some (.ref a))) (ρ.set i (.own ds)) b → Wof σ ρ b ∨ b = a := by
  have lt : ∀ {s : Sl}, (ρ.set i (.own ds))[i]? = some s → i < ρ.length := fun e => by
    by_cases hl : i < ρ.length
    · exact hl
    · rw [List.getElem?_eq_none (by simpa using hl)] at e; cases e
  refine ⟨⟨by simp [g.len], g.frame, g.o0, g.r0, g.osub, g.otrk, g.h0, fun j t e => ?_, fun j k t u b e1 e2 q1 q2 e3 e4 => ?_⟩, fun b ⟨j, t, e, q, e3⟩ => ?_⟩
  · by_cases hj : i = j
    · subst hj
      have hl := lt e
      rw [List.getElem?_set_self hl] at e
      cases e
      rw [List.getElem?_set_self (by rw [g.len]; exact hl)]
      exact ⟨a, vs, rfl, h1, h2, h3, h4, r⟩
    · rw [get_set_ne hj] at e
      rw [get_set_ne hj]
      exact g.slots j t e
  · by_cases hj : i = j
    · by_cases hk : i = k
      · rw [← hj, ← hk]
      · subst hj
        rw [get_set_ne hk] at e2 e4
        rw [List.getElem?_set_self (by rw [g.len]; exact lt e1)] at e3
        cases e3
        exact absurd ⟨k, u, e2, q2, e4⟩ nw
    · by_cases hk : i = k
      · subst hk
        rw [get_set_ne hj] at e1 e3
        rw [List.getElem?_set_self (by rw [g.len]; exact lt e2)] at e4
        cases e4
        exact absurd ⟨j, t, e1, q1, e3⟩ nw
      · rw [get_set_ne hj] at e1 e3
        rw [get_set_ne hk] at e2 e4
        exact g.sep j k t u b e1 e2 q1 q2 e3 e4
  · by_cases hj : i = j
    · subst hj
      rw [List.getElem?_set_self (by rw [g.len]; exact lt e)] at e3
      cases e3
      exact .inr rfl
    · rw [get_set_ne hj] at e e3
      exact .inl ⟨j, t, e, q, e3⟩
end
structure BagsFn (P : Program) (w : World) (K : PySem.W.Frag) (mg : Str → Option Value) (base : Heap) (k : Nat) : Prop where
  ex : ∃ f fd ps, FnOk P w K mg base CX0 k f fd ps (spBags K) ∧ mg "_law_bags" = some (.ref f) ∧ PySem.W.keepIn K (.ref f) = true ∧ Binds K fd ps []
section
variable {X : Cx} {B : Base} {sts : List Stmt} {F : Rho → Option Out}
theorem ds_law {i l n k j : Nat} {a : Addr} {ns : List Int} {x y : Str} {px py pn pc pos p : Pos} {jn} (hb : BagsFn X.prog X.w X.K X.mg X.base k) (hr : Room j X.A) (hk : k ≤ j) (hR : ∀ b, ¬ B.R b) (hO : ∀ b, ¬ B.O0 b) (hS : SqL X.K B.H0 a (ns.map V.int)) (hns : ns.length ≤ 63) (hn : n ≤ 63)
    (hp : PassesOwn (model X.prog X.w) X.A X.env X.xe) (hc : X.calm = true) (hN : X.N.Nodup) (hi : X.N[i]? = some x) (hx : Loc X.env.scope x) (hl : X.N[l]? = some y) (hF : DSs X B sts F)
    (hg : Gl X "_law_bags" := by rfl) (hf : X.fn x = true ∨ X.env.scope.names.lookup x = some .local := by first | exact .inl rfl | exact .inr rfl | assumption)
    (hv : Vis X.env.scope y := by first | exact Or.inl rfl | exact Or.inr (Or.inl rfl) | exact Or.inr (Or.inr rfl)) (hd : (y == ("__debug__" : Str)) = false := by decide) (hcd : (y == ("__classdict__" : Str)) = false := by decide)
    (hs1 : starEach [.Name y py, .Constant (.int (n : Int)) jn pn] X.env = (false, eval (.Name y py) X.env) :: starEach [.Constant (.int (n : Int)) jn pn] X.env := by rfl) (hs2 : starEach [.Constant (.int (n : Int)) jn pn] X.env = (false, eval (.Constant (.int (n : Int)) jn pn) X.env) :: starEach [] X.env := by rfl)
    (hpl : (backTo pc (starEach [.Constant (.int (n : Int)) jn pn] X.env)).any (·.1) = false := by rfl)
    (hfs : ∀ z, foldedSetIterable (.Call (.Name "_law_bags" p) [.Name y py, .Constant (.int (n : Int)) jn pn] [] pc) X.env z = pure z := by intro _; rfl) :
    DS X B (.For (.Name x px) (.Call (.Name "_law_bags" p) [.Name y py, .Constant (.int (n : Int)) jn pn] [] pc) sts [] pos) (lawF i l n a ns F) := by
  obtain ⟨fb, fd, ps, G, hm, kp, bi⟩ := hb.ex
  refine ⟨(ps_for hp hc (pi_list (pe_call G (hr.mono hk) hg hm kp bi .nil pass0 (pa_cons (pv l hl hv hd hcd) (pa_cons pe_int pa_nil hs2) hs1) (by decide) hs1 hpl)) (pg_name hN hi hx hf) hF.ps hfs).imp fun E σ H ⟨O, ρ, r, gd, e, q⟩ => ?_⟩
  unfold lawF at e
  split at e
  · next v e1 =>
    split at e
    · next ev =>
      subst ev
      have hv1 : σ[l]? = some (some (.ref a)) := gd.slots l _ e1
      have sH0 : Same B.H0 H := fun b o e => gd.frame b o e (hR b)
      refine ⟨.ref a, hv1, ?_⟩
      simp only [tCons, tC, tNil, List.append_nil]
      refine ⟨a, ns, n, rfl, sH0.seq hS, hns, hn, fun p bs H1 s1 hp0 hp1 hbl hnd hpb hbs => ?_⟩
      refine ⟨p, rfl, ⟨_, .of hp1⟩, ?_⟩
      have hcl : (bagsL 0 (cellsOf ns n)).length = bs.length := by rw [bagsL_len, hbl]
      have getc : ∀ (j : Nat), j < bs.length → ∃ b c, bs[j]? = some b ∧ (bagsL 0 (cellsOf ns n))[j]? = some c ∧ H b = none ∧ H1 b = some (.lst (c.map V.int)) := fun j hj => by
        refine ⟨bs[j], (bagsL 0 (cellsOf ns n))[j]'(by omega), List.getElem?_eq_getElem hj, List.getElem?_eq_getElem (by omega), ?_⟩
        exact hbs j _ _ (List.getElem?_eq_getElem hj) (List.getElem?_eq_getElem (by omega))
      have fresh : ∀ b ∈ bs, H b = none ∧ ∃ c : List Int, H1 b = some (.lst (c.map V.int)) := fun b hb => by
        obtain ⟨j, hj, ej⟩ := List.mem_iff_getElem.mp hb
        obtain ⟨b', c, e1, _, h1, h2⟩ := getc j hj
        rw [List.getElem?_eq_getElem hj, ej] at e1
        cases e1
        exact ⟨h1, c, h2⟩
      have g1 : Good B (fun b => O b ∨ b ∈ bs) σ H1 ρ := gd.more s1 (fun b hb => (fresh b hb).1) fun b hb => by
        obtain ⟨c, h⟩ := (fresh b hb).2
        exact some_ne h
      have nw : ∀ b, H b = none → ¬ Wof σ ρ b := fun b hb z => by
        obtain ⟨_, vs, h⟩ := gd.wof z
        rw [hb] at h; cases h
      refine ⟨fun i' m σi Hi => m = bs.length - i' ∧ i' ≤ bs.length ∧ ∃ Oi ρi, Good B Oi σi Hi ρi ∧ Stp O σ H ρ Oi σi Hi ρi ∧ (∀ b ∈ bs, Oi b) ∧ Hi p = some (.lst (bs.map V.ref)) ∧ ¬ Oi p ∧
          (∀ (j : Nat) b c, i' ≤ j → bs[j]? = some b → (bagsL 0 (cellsOf ns n))[j]? = some c → Hi b = some (.lst (c.map V.int)) ∧ ¬ Wof σi ρi b) ∧ lawL i F ((bagsL 0 (cellsOf ns n)).drop i') ρi = some r,
        ⟨bs.length, by simp, Nat.zero_le _, _, ρ, g1, ⟨.of s1, fun b h => h.elim .inl fun z => .inr (fresh b z).1, fun b h => .inl h, fun b h => .inl h⟩, fun b hb => .inr hb, hp1, fun z => ?_, fun j b c _ e2 e3 => ⟨(hbs j b c e2 e3).2, nw b (hbs j b c e2 e3).1⟩, by simpa using e⟩, ?_⟩
      · rcases z with z | z
        · exact gd.otrk p z hp0
        · exact hpb z
      rintro i' m σi Hi ⟨rfl, hle, Oi, ρi, gi, si, hOi, hpi, hnp, hbi, ei⟩
      have npw : ¬ Wof σi ρi p := fun z => hnp (gi.wof z).1
      by_cases hlt : i' < bs.length
      · obtain ⟨b, c, eb, ec, hb0, _⟩ := getc i' hlt
        obtain ⟨hb1, hb2⟩ := hbi i' b c (Nat.le_refl _) eb ec
        have hlc : i' < (bagsL 0 (cellsOf ns n)).length := by omega
        have ec' : (bagsL 0 (cellsOf ns n))[i'] = c := by
          rw [List.getElem?_eq_getElem hlc] at ec
          exact Option.some.inj ec
        rw [List.drop_eq_getElem_cons hlc, ec'] at ei
        obtain ⟨r1, e3, e4⟩ := bind_some ei
        have hbm : b ∈ bs := List.mem_of_getElem? eb
        refine .inr ⟨⟨bs.map V.ref, .ref b, .of hpi, by rw [List.getElem?_map, eb]; rfl⟩, fun σ' H' => i' + 1 ≤ bs.length ∧ ∃ O' ρ', Good B O' σ' H' ρ' ∧ Stp O σ H ρ O' σ' H' ρ' ∧ (∀ b ∈ bs, O' b) ∧ H' p = some (.lst (bs.map V.ref)) ∧ ¬ O' p ∧
            (∀ (j : Nat) b c, i' + 1 ≤ j → bs[j]? = some b → (bagsL 0 (cellsOf ns n))[j]? = some c → H' b = some (.lst (c.map V.int)) ∧ ¬ Wof σ' ρ' b) ∧ lawL i F ((bagsL 0 (cellsOf ns n)).drop (i' + 1)) ρ' = some r,
          fun σ' H' ⟨h1, h2⟩ => ⟨bs.length - (i' + 1), by omega, rfl, h1, h2⟩, fun xv H2 yv => ?_⟩
        obtain ⟨rfl, yv⟩ := yv
        have exv : xv = .ref b := by
          have := yv _ (.of hpi)
          rw [List.getElem?_map, eb] at this
          exact (Option.some.inj this).symm
        subst exv
        have hB0 : B.H0 b = none := by
          cases e : B.H0 b with
          | none => rfl
          | some o =>
            have := sH0 b o e
            rw [hb0] at this; cases this
        obtain ⟨g2, w2⟩ := gi.adopt (i := i) (hOi b hbm) (hO b) hB0 hb1 (repL_ints c) hb2
        refine ⟨Oi, _, r1, g2, e3, ?_⟩
        have st2 : Stp O σ H ρ Oi (σi.set i (some (.ref b))) H2 (ρi.set i (.own (intsD c))) := ⟨si.keep, si.out, si.grow, fun c' h => (w2 c' h).elim (fun z => si.w c' z) fun z => .inr (by rw [z]; exact hb0)⟩
        cases r1 with
        | nx ρ2 =>
          intro σ' H' O' s3 g3
          have hpb' : p ≠ b := fun z => hpb (by rw [z]; exact hbm)
          have npw2 : ¬ Wof (σi.set i (some (.ref b))) (ρi.set i (.own (intsD c))) p := fun z => (w2 p z).elim npw hpb'
          have pk := s3.keep.keep p _ hpi npw2
          refine ⟨hlt, O', ρ2, g3, st2.trans gd s3, fun b' hb' => ?_, pk, fun z => ?_, fun j b' c' hj eb' ec2 => ?_, e4⟩
          · exact s3.grow b' (hOi b' hb')
          · rcases s3.out p z with z | z
            · exact hnp z
            · rw [hpi] at z; cases z
          · have hne : b' ≠ b := fun z => by
              subst z
              have h1 := (List.getElem?_eq_some_iff.mp eb').1
              have h2 := (List.getElem?_eq_some_iff.mp eb').2
              have h3 := (List.getElem?_eq_some_iff.mp eb).2
              have : i' = j := (List.getElem_inj hnd).mp (h3.trans h2.symm)
              omega
            obtain ⟨k1, k2⟩ := hbi j b' c' (by omega) eb' ec2
            have nw2 : ¬ Wof (σi.set i (some (.ref b))) (ρi.set i (.own (intsD c))) b' := fun z => (w2 b' z).elim k2 hne
            refine ⟨s3.keep.keep b' _ k1 nw2, fun z => ?_⟩
            rcases s3.w b' z with z | z
            · exact nw2 z
            · rw [k1] at z; cases z
        | rt z ρ2 =>
          cases e4
          exact fun v σ' H' O' s3 g3 r3 => q v σ' H' O' (st2.trans gd s3) g3 r3
      · have en : i' = bs.length := by omega
        subst en
        rw [← hcl, List.drop_length] at ei
        cases ei
        exact .inl ⟨⟨_, .of hpi, by simp⟩, q σi Hi Oi si gi⟩
    · cases e
  · cases e
end
end DL

namespace DL
open PySem PySem.Spec
open PyProof.Rows hiding St
open L2
theorem cut_take (xs : List V) (n : Nat) : cutV xs none (some (n : Int)) = xs.take n := by
  unfold cutV
  rw [HT.sIx_none, HT.sIx_nat]
  simp only [List.drop_zero, Nat.sub_zero]
  rcases Nat.le_total n xs.length with h | h
  · rw [Nat.min_eq_left h]
  · rw [Nat.min_eq_right h, List.take_of_length_le (Nat.le_refl _), List.take_of_length_le h]
theorem repL_ints_iff {O : Addr → Prop} {H : Hp} : ∀ {ns : List Int} {vs : List V}, RepL O H (intsD ns) vs → vs = ns.map V.int
  | [], vs, h => by simpa [intsD, RepL] using h
  | n :: ns, vs, h => by
    have h' : ∃ v ws, vs = v :: ws ∧ Rep O H (.int n) v ∧ RepL O H (intsD ns) ws := by
      simpa only [intsD, List.map_cons, RepL] using h
    obtain ⟨v, ws, rfl, h1, h2⟩ := h'
    rw [rep_int.mp h1, repL_ints_iff h2]
    rfl
theorem bags_read {K : PySem.W.Frag} {F : List D → Option D} (hw : ∀ c t, F [.int c, .int t] = some (.list (intsD (wellL c t)))) {vs : List V} {H : Hp} {Q : VK} {E : XK} (h : spBags K vs H Q E) {D : Ends} (hD : D.rt = Q) :
    tRet (tLc (iEnum K (tCons (tOp (rAddA K) (tSl (rSlL K) (tVar 0) tNoPart (tPart (tVar 1))) (tLst (tCons (tC (.int 0)) tNil))) tNil)) (gTup K 2 (gCons (gName 2) (gCons (gName 3) gNil))) tYes
      (tCall (spP F) [] E0 (tCons (tVar 3) (tCons (tOp (rI CMul fun i j => .int (i * j)) (tC (.int 977)) (tVar 2)) tNil))) [2, 3]) D (vs.map some ++ [none, none]) H := by
  obtain ⟨a, ns, n, rfl, hS, hns, hn, q⟩ := h
  subst hD
  refine ⟨.ref a, rfl, .int n, rfl, n, rfl, a, ns.map V.int, rfl, hS, fun p1 hp1 => ?_⟩
  refine ⟨(by show 1 ≤ sizeLine; rw [sizeLine_eq]; decide), fun p2 hp2 => .inr (.inr ⟨p1, p2, (ns.map V.int).take n, [.int 0], rfl, rfl, ?_, upd_same, ?_, fun p3 hp3 => ?_⟩)⟩
  · rw [upd_ne (fun z => by rw [z, upd_same] at hp2; cases hp2), cut_take, upd_same]
  · rw [List.length_take, List.length_map, sizeLine_eq]
    show min n ns.length + 1 ≤ _
    omega
  have hcs : (ns.map V.int).take n ++ [.int 0] = (cellsOf ns n).map V.int := by
    unfold cellsOf
    rw [List.map_append, List.map_take]
    rfl
  rw [hcs]
  generalize hH1 : upd (upd (upd H p1 (.lst (cutV (ns.map V.int) none (some (n : Int))))) p2 (.lst [.int 0])) p3 (.lst ((cellsOf ns n).map V.int)) = H1
  have s1 : Same H H1 := by
    rw [← hH1]
    exact (same_upd hp1).trans ((same_upd hp2).trans (same_upd hp3))
  have e3 : H1 p3 = some (.lst ((cellsOf ns n).map V.int)) := by rw [← hH1, upd_same]
  refine ⟨p3, _, rfl, .of e3, fun Dl hD => ?_⟩
  have lcl : (cellsOf ns n).length ≤ 64 := by unfold cellsOf; rw [List.length_append, List.length_take]; simp; omega
  refine lc_it (σ := [some (.ref a), some (.int n), none, none]) (walk_enum (K := K) (a := p3) (xs := (cellsOf ns n).map V.int)) (fun i Hi => ∃ bs : List Addr, bs.length = i ∧ Hi Dl = some (.lst (bs.map V.ref)) ∧ bs.Nodup ∧ Dl ∉ bs ∧ Same H1 Hi ∧
      ∀ (j : Nat) b c, bs[j]? = some b → (bagsL 0 (cellsOf ns n))[j]? = some c → H1 b = none ∧ Hi b = some (.lst (c.map V.int))) ⟨[], rfl, upd_same, .nil, by simp, same_upd hD, fun j b c e => by simp at e⟩
    (fun i Hi _ ⟨bs, _, _, _, _, s, _⟩ => .of (s _ _ e3)) ?_ ?_
  · rintro i x Hi H2 hi ⟨bs, hbl, hbD, hbn, hDb, s2, hbs⟩ ⟨T, x1, x2, rfl, hT, rfl, ex1, ex2⟩
    cases Option.some.inj ex1
    rw [List.length_map] at hi
    have ec : (cellsOf ns n)[i]? = some (cellsOf ns n)[i] := List.getElem?_eq_getElem hi
    have ex2 : ((cellsOf ns n).map V.int)[i]? = some x2 := ex2
    rw [List.getElem?_map, ec] at ex2
    cases Option.some.inj ex2
    have sT : Same Hi (upd Hi T (.tup [.int (i : Int), .int (cellsOf ns n)[i]])) := same_upd hT
    refine ⟨T, [.int (i : Int), .int (cellsOf ns n)[i]], rfl, .of upd_same, rfl, _, _, rfl, _, _, rfl, rfl, ?_⟩
    refine ⟨rfl, ?_⟩
    simp only [tYes, if_true]
    refine ⟨.int (cellsOf ns n)[i], rfl, .int (i : Int), rfl, 977, (i : Int), rfl, rfl, .inl ⟨by decide, by decide⟩, ?_⟩
    generalize hH2 : upd Hi T (.tup [.int (i : Int), .int (cellsOf ns n)[i]]) = H2 at sT
    show spP F [V.int (cellsOf ns n)[i], V.int (977 * (i : Int))] H2 _ E0
    refine ⟨fun b => H2 b ≠ none, [.int (cellsOf ns n)[i], .int (977 * (i : Int))], _, fun b h => h, .cons (rep_int.mpr rfl) (.cons (rep_int.mpr rfl) .nil), hw _ _, fun v H3 s3 r3 => ?_⟩
    simp only [Rep] at r3
    obtain ⟨b, us, rfl, nb, hb, r⟩ := r3
    have hbn2 : H2 b = none := by
      cases e : H2 b with
      | none => rfl
      | some o => exact absurd (some_ne e) nb
    have hbi : Hi b = none := sT.free hbn2
    rw [repL_ints_iff r] at hb
    have hDb2 : Dl ≠ b := fun z => by rw [← z, hbD] at hbi; cases hbi
    refine ⟨bs.map V.ref, s3 _ _ (sT _ _ hbD), by rw [List.length_map, hbl, sizeLine_eq]; omega, bs ++ [b], by rw [List.length_append, hbl]; rfl, by rw [upd_same, List.map_append]; rfl, ?_, ?_, ?_, ?_⟩
    · rw [List.nodup_append]
      refine ⟨hbn, by simp, fun x hx y hy => ?_⟩
      have ey : y = b := by simpa using hy
      rintro rfl
      subst ey
      obtain ⟨j, hj, ej⟩ := List.mem_iff_getElem.mp hx
      have hjc : j < (bagsL 0 (cellsOf ns n)).length := by rw [bagsL_len]; omega
      have := (hbs j x _ (by rw [List.getElem?_eq_getElem hj, ej]) (List.getElem?_eq_getElem hjc)).2
      rw [hbi] at this; cases this
    · intro z
      rcases List.mem_append.mp z with z | z
      · exact hDb z
      · exact hDb2 (by simpa using z)
    · intro c o e
      have hcD : c ≠ Dl := fun z => by rw [z, hD] at e; cases e
      rw [upd_ne hcD]
      exact s3 _ _ (sT _ _ (s2 _ _ e))
    · intro j b' c e1 e2
      have keepb : ∀ {o : HO}, b' ≠ Dl → H3 b' = some o → upd H3 Dl (.lst (bs.map V.ref ++ [.ref b])) b' = some o := fun hne e => by rw [upd_ne hne]; exact e
      by_cases hj : j < bs.length
      · rw [List.getElem?_append_left hj] at e1
        obtain ⟨h1, h2⟩ := hbs j b' c e1 e2
        refine ⟨h1, keepb (fun z => hDb (by rw [← z]; exact List.mem_of_getElem? e1)) (s3 _ _ (sT _ _ h2))⟩
      · have ej : j = bs.length := by
          have := (List.getElem?_eq_some_iff.mp e1).1
          rw [List.length_append] at this
          simp at this
          omega
        subst ej
        rw [List.getElem?_append_right (Nat.le_refl _)] at e1
        simp at e1
        subst e1
        rw [bagsL_get, hbl, ec] at e2
        have e2' : wellL (cellsOf ns n)[i] (977 * ((0 + i : Nat) : Int)) = c := Option.some.inj e2
        rw [Nat.zero_add] at e2'
        subst e2'
        exact ⟨s2.free hbi, keepb (fun z => hDb2 z.symm) hb⟩
  · rintro Hi ⟨bs, hbl, hbD, hbn, hDb, s2, hbs⟩
    rw [List.length_map] at hbl
    have hDH : H Dl = none := s1.free hD
    refine q Dl bs Hi (s1.trans s2) hDH hbD hbl hbn hDb fun j b c e1 e2 => ?_
    obtain ⟨h1, h2⟩ := hbs j b c e1 e2
    exact ⟨s1.free h1, h2⟩
end DL

namespace DL
open PySem PySem.Spec
open PyProof.Rows hiding St
open L2
/-! ## isinstance, len, max, min of two -/
inductive Ty where | int | bool | str | tuple | list
def Ty.name : Ty → String
  | .int => "int" | .bool => "bool" | .str => "str" | .tuple => "tuple" | .list => "list"
def Ty.py : Ty → Str
  | .int => "int" | .bool => "bool" | .str => "str" | .tuple => "tuple" | .list => "list"
@[simp] def isTy : Ty → D → Bool
  | .int, .int _ => true
  | .int, .bool _ => true
  | .bool, .bool _ => true
  | .str, .str _ => true
  | .tuple, .tuple _ => true
  | .list, .list _ => true
  | _, _ => false
@[simp] def isTyD (T : Ty) : D → Option D := fun d => some (.bool (isTy T d))
@[simp] def isAnyD (Ts : List Ty) : D → Option D := fun d => some (.bool (Ts.any fun T => isTy T d))
theorem kt_none : ∀ T : Ty, kitB "NoneType" T.name = some (isTy T .none) := by intro T; cases T <;> decide +kernel
theorem kt_bool : ∀ T : Ty, kitB "bool" T.name = some (isTy T (.bool true)) := by intro T; cases T <;> decide +kernel
theorem kt_int : ∀ T : Ty, kitB "int" T.name = some (isTy T (.int 0)) := by intro T; cases T <;> decide +kernel
theorem kt_str : ∀ T : Ty, kitB "str" T.name = some (isTy T (.str ⟨#[]⟩)) := by intro T; cases T <;> decide +kernel
theorem kt_list : ∀ T : Ty, kitB "list" T.name = some (isTy T (.list [])) := by intro T; cases T <;> decide +kernel
theorem kt_tuple : ∀ T : Ty, kitB "tuple" T.name = some (isTy T (.tuple [])) := by intro T; cases T <;> decide +kernel
theorem kt_of {K : PySem.W.Frag} {a : String} {T : Ty} {d e : D} (h : kitB a T.name = some (isTy T d)) (q : isTy T d = isTy T e) : PySem.W.kitOne K (.type a) (.type T.name) = some (isTy T e) := by
  rw [← q]
  exact kit_ty h
theorem ty_of {K : PySem.W.Frag} {O : Addr → Prop} {H : Hp} {d : D} {v : V} (h : Rep O H d v) : ∃ t : String, TyX K H v (.type t) ∧ ∀ T : Ty, PySem.W.kitOne K (.type t) (.type T.name) = some (isTy T d) := by
  cases d with
  | none => rw [rep_none.mp h]; exact ⟨"NoneType", .base .non, fun T => kt_of (kt_none T) rfl⟩
  | bool b => rw [rep_bool.mp h]; exact ⟨"bool", .base (.bl b), fun T => kt_of (kt_bool T) (by cases T <;> rfl)⟩
  | int b => rw [rep_int.mp h]; exact ⟨"int", .base (.int b), fun T => kt_of (kt_int T) (by cases T <;> rfl)⟩
  | str b => rw [rep_str.mp h]; exact ⟨"str", .base (.str b), fun T => kt_of (kt_str T) (by cases T <;> rfl)⟩
  | list ds => simp only [Rep] at h; obtain ⟨a, vs, rfl, _, ha, _⟩ := h; exact ⟨"list", .base (.lst ha), fun T => kt_of (kt_list T) (by cases T <;> rfl)⟩
  | tuple ds => simp only [Rep] at h; obtain ⟨a, vs, rfl, ha, _⟩ := h; exact ⟨"tuple", .base (.tup ha), fun T => kt_of (kt_tuple T) (by cases T <;> rfl)⟩
  | dict ds => simp only [Rep] at h
theorem boot_ty (T : Ty) : bootBuiltins T.py = some (.type T.name) := by
  cases T <;> decide +kernel
section
variable {X : Cx} {B : Base} {m : Md} {e : Expr} {g : Rho → Option D} {pos p p2 : Pos}
theorem dp_isi {T : Ty} {y : Str} (hm : X.mg "isinstance" = none) (hmT : X.mg y = none) (hy : y = T.py) (he : DP X B m e g) (hg : Gl X "isinstance" := by rfl) (hgT : Gl X y := by rfl) (hn : y ≠ "__name__" := by decide) (hd : (y == ("__debug__" : Str)) = false := by decide)
    (hs : starEach (e :: [.Name y p2]) X.env = (false, eval e X.env) :: starEach [.Name y p2] X.env := by rfl) (hpl : (backTo pos (starEach [.Name y p2] X.env)).any (·.1) = false := by rfl) :
    DP X B m (.Call (.Name "isinstance" p) [e, .Name y p2] [] pos) (b1D g (isTyD T)) := by
  subst hy
  refine ⟨(pe_callB call_isi hg hm boot_isinstance (pa_cons he.pe (pa_cons (pe_bltn (v := .ty T.name) hgT hmT (boot_ty T) rfl hn hd) pa_nil) hs) (by decide) (by decide) hs hpl).imp fun σ H Q ⟨O, ρ, d, gd, e, q⟩ => ?_⟩
  obtain ⟨d1, e1, e2⟩ := bind_some e
  cases e2
  refine ⟨O, ρ, d1, gd, e1, fun v H1 s1 r1 => ?_⟩
  obtain ⟨t, h1, h2⟩ := ty_of (K := X.K) r1
  exact ⟨v, .ty T.name, _, _, _, rfl, .ty _, h1, h2 T, q _ H1 s1 (rep_bool.mpr rfl)⟩
theorem kit_any {K : PySem.W.Frag} {t : String} {d : D} (h : ∀ T : Ty, PySem.W.kitOne K (.type t) (.type T.name) = some (isTy T d)) : ∀ Ts : List Ty, PySem.W.kitAny K (.type t) (Ts.map fun T => Value.type T.name) = some (Ts.any fun T => isTy T d)
  | [] => kitAny_nil
  | T :: Ts => by
    rw [List.map_cons, List.any_cons]
    refine kitAny_cons (h T) (fun e => ?_) fun e => ?_
    · rw [e, Bool.false_or]; exact kit_any h Ts
    · rw [e, Bool.true_or]
theorem dp_isi3 {T1 T2 T3 : Ty} {y1 y2 y3 : Str} {q1 q2 q3 pt : Pos} {kt} (hm : X.mg "isinstance" = none) (hm1 : X.mg y1 = none) (hm2 : X.mg y2 = none) (hm3 : X.mg y3 = none) (hy1 : y1 = T1.py) (hy2 : y2 = T2.py) (hy3 : y3 = T3.py) (he : DP X B m e g) (hg : Gl X "isinstance" := by rfl)
    (hg1 : Gl X y1 := by rfl) (hg2 : Gl X y2 := by rfl) (hg3 : Gl X y3 := by rfl) (hn1 : y1 ≠ "__name__" := by decide) (hn2 : y2 ≠ "__name__" := by decide) (hn3 : y3 ≠ "__name__" := by decide) (hd1 : (y1 == ("__debug__" : Str)) = false := by decide) (hd2 : (y2 == ("__debug__" : Str)) = false := by decide) (hd3 : (y3 == ("__debug__" : Str)) = false := by decide)
    (hs : starEach (e :: [.Tuple [.Name y1 q1, .Name y2 q2, .Name y3 q3] kt pt]) X.env = (false, eval e X.env) :: starEach [.Tuple [.Name y1 q1, .Name y2 q2, .Name y3 q3] kt pt] X.env := by rfl) (hpl : (backTo pos (starEach [.Tuple [.Name y1 q1, .Name y2 q2, .Name y3 q3] kt pt] X.env)).any (·.1) = false := by rfl)  :
    DP X B m (.Call (.Name "isinstance" p) [e, .Tuple [.Name y1 q1, .Name y2 q2, .Name y3 q3] kt pt] [] pos) (b1D g (isAnyD [T1, T2, T3])) := by
  subst hy1 hy2 hy3
  refine ⟨(pe_callB call_isiT hg hm boot_isinstance (pa_cons he.pe (pa_cons (pe_tup (pa_cons (pe_bltn (v := .ty T1.name) hg1 hm1 (boot_ty T1) rfl hn1 hd1) (pa_cons (pe_bltn (v := .ty T2.name) hg2 hm2 (boot_ty T2) rfl hn2 hd2) (pa_cons (pe_bltn (v := .ty T3.name) hg3 hm3 (boot_ty T3) rfl hn3 hd3) pa_nil)))) pa_nil) hs) (by decide) (by decide) hs hpl).imp fun σ H Q ⟨O, ρ, d, gd, e, q⟩ => ?_⟩
  obtain ⟨d1, e1, e2⟩ := bind_some e
  cases e2
  refine ⟨O, ρ, d1, gd, e1, fun v H1 s1 r1 => ?_⟩
  refine ⟨by show 3 ≤ sizeLine; rw [sizeLine_eq]; decide, fun tp htp => ?_⟩
  have r2 := r1.same (H' := upd H1 tp (.tup [.ty T1.name, .ty T2.name, .ty T3.name])) (same_upd htp)
  obtain ⟨t, h1, h2⟩ := ty_of (K := X.K) r2
  refine ⟨v, tp, _, .type t, [.type T1.name, .type T2.name, .type T3.name], _, rfl, upd_same, .cons (.ty _) (.cons (.ty _) (.cons (.ty _) .nil)), h1, kit_any h2 [T1, T2, T3], q _ _ (s1.trans (same_upd htp)) (rep_bool.mpr rfl)⟩
end
/-! ## an item of a list of one's own -/
@[simp] def ixO (i : Nat) (gk : Rho → Option D) : Rho → Option D := fun ρ => (gk ρ).bind fun k => (asInt k).bind fun k => (ρ[i]?).bind fun t => (ownOf t).bind fun es => (atI es k).bind immD
section
variable {X : Cx} {B : Base} {m : Md} {k : Expr} {gk : Rho → Option D} {pos p : Pos}
theorem dp_ixO {i : Nat} {x : Str} (hN : X.N[i]? = some x) (hk : DP X B m k gk) (hv : Vis X.env.scope x := by first | exact Or.inl rfl | exact Or.inr (Or.inl rfl) | exact Or.inr (Or.inr rfl)) (hd : (x == ("__debug__" : Str)) = false := by decide)
    (hcd : (x == ("__classdict__" : Str)) = false := by decide) (hs : PlainIx k := by exact fun _ _ => rfl) : DP X B m (.Subscript (.Name x p) k pos) (ixO i gk) := ⟨(pe_ix ix_list (pv i hN hv hd hcd) hk.pe hs).imp fun σ H Q ⟨O, ρ, d, gd, e, q⟩ => by
  obtain ⟨kd, e1, e2⟩ := bind_some e
  obtain ⟨n, e3, e4⟩ := bind_some e2
  obtain ⟨t, e5, e6⟩ := bind_some e4
  obtain ⟨es, e7, e8⟩ := bind_some e6
  obtain ⟨z, e9, e10⟩ := bind_some e8
  have ek : kd = .int n := by
    unfold asInt at e3
    split at e3
    · cases e3; rfl
    · cases e3
  subst ek
  obtain ⟨a, vs, h1, h2, h3, h4⟩ := gd.ownAt e5 e7
  obtain ⟨v, e11, r⟩ := atI_rep h4 e9
  unfold immD at e10
  split at e10
  · next hi =>
    cases e10
    refine ⟨_, h1, O, ρ, _, gd, e1, fun w H1 s1 r1 => ⟨a, vs, n, v, rfl, rep_int.mp r1, .of (s1 a _ h3), e11, q v H1 s1 ((r.same s1).imm hi)⟩⟩
  · cases e10⟩
end
@[simp] def lenD : List D → Option D
  | [.list ds] => some (.int ds.length)
  | [.tuple ds] => some (.int ds.length)
  | _ => none
@[simp] def max2D : List D → Option D
  | [.int i, .int j] => some (.int (if j > i then j else i))
  | _ => none
@[simp] def min2D : List D → Option D
  | [.int i, .int j] => some (.int (if j < i then j else i))
  | _ => none
theorem repL_one {O : Addr → Prop} {H : Hp} {d : D} {vs : List V} (h : RepL O H [d] vs) : ∃ v, vs = [v] ∧ Rep O H d v := by
  simp only [RepL] at h
  obtain ⟨v, ws, rfl, r, rfl⟩ := h
  exact ⟨v, rfl, r⟩
theorem repL_two {O : Addr → Prop} {H : Hp} {d e : D} {vs : List V} (h : RepL O H [d, e] vs) : ∃ v w, vs = [v, w] ∧ Rep O H d v ∧ Rep O H e w := by
  simp only [RepL] at h
  obtain ⟨v, ws, rfl, r, w, us, rfl, r2, rfl⟩ := h
  exact ⟨v, w, rfl, r, r2⟩
section
variable {K : PySem.W.Frag}
theorem n_len : OpN (fun xs H Q => ∃ p ys, xs = [.ref p] ∧ (SqL K H p ys ∨ SqT K H p ys) ∧ Q (.int ys.length) H) lenD := by
  intro O H ds z xs Q t hf rx q
  unfold lenD at hf
  split at hf
  · cases hf
    obtain ⟨v, rfl, r⟩ := repL_one rx
    simp only [Rep] at r
    obtain ⟨a, vs, rfl, _, ha, r⟩ := r
    exact ⟨a, vs, rfl, .inl (.of ha), q _ H (Same.refl H) (rep_int.mpr (by rw [r.length]))⟩
  · cases hf
    obtain ⟨v, rfl, r⟩ := repL_one rx
    simp only [Rep] at r
    obtain ⟨a, vs, rfl, ha, r⟩ := r
    exact ⟨a, vs, rfl, .inr (.of ha), q _ H (Same.refl H) (rep_int.mpr (by rw [r.length]))⟩
  · cases hf
theorem n_max2 : OpN (fun xs H Q => ∃ i j, xs = [.int i, .int j] ∧ Q (.int (if j > i then j else i)) H) max2D := by
  intro O H ds z xs Q t hf rx q
  unfold max2D at hf
  split at hf
  · cases hf
    obtain ⟨v, w, rfl, r, r2⟩ := repL_two rx
    rw [rep_int.mp r, rep_int.mp r2]
    exact ⟨_, _, rfl, q _ H (Same.refl H) (rep_int.mpr rfl)⟩
  · cases hf
theorem n_min2 : OpN (fun xs H Q => ∃ i j, xs = [.int i, .int j] ∧ Q (.int (if j < i then j else i)) H) min2D := by
  intro O H ds z xs Q t hf rx q
  unfold min2D at hf
  split at hf
  · cases hf
    obtain ⟨v, w, rfl, r, r2⟩ := repL_two rx
    rw [rep_int.mp r, rep_int.mp r2]
    exact ⟨_, _, rfl, q _ H (Same.refl H) (rep_int.mpr rfl)⟩
  · cases hf
end
end DL

namespace DL
open PySem PySem.Spec
open PyProof.Rows hiding St
open L2
/-! ## the ends of a row -/
structure DefAt (K : PySem.W.Frag) (mg : Str → Option Value) (x : Str) (st : Stmt) (ps : List Str) : Prop where
  ex : ∃ f fd, L2.Fun K x x st f fd ∧ Binds K fd ps [] ∧ mg x = some (.ref f)
def spLaw (K : PySem.W.Frag) : Sp := fun vs H Q _ => ∃ (a : Addr) (ns : List Int), vs = [.ref a] ∧ SqL K H a (ns.map V.int) ∧ ns.length ≤ 63 ∧ ∀ H', Q (.bl true) H'
theorem good_law (H : Hp) (a : Addr) (n : Nat) : Good ⟨H, fun _ => False, fun _ => False⟩ (fun _ => False) (some (.ref a) :: List.replicate n none) H (.raw (.ref a) :: List.replicate n .nil) := by
  have no : ∀ (i : Nat) s, (Sl.raw (V.ref a) :: List.replicate n Sl.nil)[i]? = some s → isOwn s = false := fun i s e => by
    cases i with
    | zero => simp at e; subst e; rfl
    | succ i =>
      rw [List.getElem?_cons_succ, List.getElem?_replicate] at e
      split at e
      · cases e; rfl
      · cases e
  refine ⟨by simp, fun _ _ e _ => e, fun _ h => h.elim, fun _ h => h.elim, fun _ h => h, fun _ h => h.elim, fun _ h => h, fun i s e => ?_, fun i j s t b e1 _ q _ _ _ => by rw [no i s e1] at q; cases q⟩
  cases i with
  | zero => simp at e; subst e; rfl
  | succ i =>
    rw [List.getElem?_cons_succ, List.getElem?_replicate] at e
    split at e
    · cases e; trivial
    · cases e
abbrev mulA := mulD
theorem op_mulA {X : Cx} : OpR X (binaryOp .Mult) (rI CMul fun i j => .int (i * j)) := op_mul
theorem o_mulA : Op2 (rI CMul fun i j => .int (i * j)) mulA := o_mul
theorem Fn.mono {P : Program} {w : World} {K : PySem.W.Frag} {mg : Str → Option Value} {base : Heap} {j k : Nat} {x : Str} {F : List D → Option D} (h : Fn P w K mg base j x F) (hk : j ≤ k) : Fn P w K mg base k x F := by
  obtain ⟨f, fd, ps, G, r⟩ := h.ex
  exact ⟨f, fd, ps, G.mono hk, r⟩
end DL

namespace DL
open PySem PySem.Spec
open PyProof.Rows hiding St
open L2
/-! ## facts for evaluation -/
@[simp] theorem shaped_int (i : Int) : SeqAt.shaped (.int i) = true := by simp [SeqAt.shaped, PyData.canLay0, PyData.depth]
@[simp] theorem shaped_bool (i : Bool) : SeqAt.shaped (.bool i) = true := by simp [SeqAt.shaped, PyData.canLay0, PyData.depth]
@[simp] theorem shaped_none : SeqAt.shaped .none = true := by simp [SeqAt.shaped, PyData.canLay0, PyData.depth]
@[simp] theorem eqv_int (i j : Int) : PyData.eqv (.int i) (.int j) = (i == j) := by simp [PyData.eqv]
@[simp] theorem atI_natCast {α : Type} (xs : List α) (n : Nat) : atI xs (n : Int) = xs[n]? := by
  by_cases h : n < xs.length
  · rw [atI_nat (List.getElem?_eq_getElem h), List.getElem?_eq_getElem h]
  · rw [List.getElem?_eq_none (by omega)]
    unfold atI ixN
    rw [if_pos (by omega), if_neg (by omega)]
    rfl
@[simp] theorem atI_zero {α : Type} (xs : List α) : atI xs 0 = xs[0]? := atI_natCast xs 0
@[simp] theorem atI_one {α : Type} (xs : List α) : atI xs 1 = xs[1]? := atI_natCast xs 1
@[simp] theorem atI_two {α : Type} (xs : List α) : atI xs 2 = xs[2]? := atI_natCast xs 2
@[simp] theorem atI_three {α : Type} (xs : List α) : atI xs 3 = xs[3]? := atI_natCast xs 3
@[simp] theorem atI_neg_one {α : Type} (xs : List α) : atI xs (-1) = xs.getLast? := by
  cases h : xs.getLast? with
  | none =>
    rw [List.getLast?_eq_none_iff] at h
    subst h
    rfl
  | some v =>
    obtain ⟨ys, rfl⟩ := List.getLast?_eq_some_iff.mp h
    exact atI_last ys v
@[simp] theorem ixN_zero (n : Nat) : ixN (n + 1) 0 = some 0 := by
  unfold ixN
  rw [if_pos (by omega), if_pos (by omega)]
  rfl
@[simp] theorem ixN_one (n : Nat) : ixN (n + 2) 1 = some 1 := by
  unfold ixN
  rw [if_pos (by omega), if_pos (by omega)]
  rfl
@[simp] theorem ixN_two (n : Nat) : ixN (n + 3) 2 = some 2 := by
  unfold ixN
  rw [if_pos (by omega), if_pos (by omega)]
  rfl
/-! ## draws -/
def bigM : Int := 2305843009213693951
def Bag (n : Int) (bs : List D) : Prop := ∃ a b c : Int, bs = [.int a, .int b, .int c] ∧ 0 ≤ b ∧ b < bigM ∧ 0 ≤ c ∧ c ≤ n
theorem Bag.mono {n m : Int} {bs : List D} (h : Bag n bs) (l : n ≤ m) : Bag m bs := by
  obtain ⟨a, b, c, e, h1, h2, h3, h4⟩ := h
  exact ⟨a, b, c, e, h1, h2, h3, by omega⟩
theorem bag_well (c t n : Int) (h0 : 0 ≤ t) (h : t ≤ n) : Bag n (intsD (wellL c t)) := by
  have h1 : 0 ≤ c % bigM := Int.emod_nonneg _ (by decide)
  have h2 : c % bigM < bigM := Int.emod_lt_of_pos _ (by decide)
  unfold wellL
  split
  · exact ⟨_, _, _, rfl, h1, h2, h0, h⟩
  · exact ⟨_, _, _, rfl, h1, h2, h0, h⟩
theorem bags_bag : ∀ (cs : List Int) (k : Nat) (n : Int), 977 * ((k + cs.length : Nat) : Int) ≤ n → ∀ c ∈ bagsL k cs, Bag n (intsD c)
  | [], k, n, h, c, hc => by simp [bagsL] at hc
  | x :: cs, k, n, h, c, hc => by
    simp only [bagsL, List.mem_cons] at hc
    simp only [List.length_cons] at h
    rcases hc with rfl | hc
    · exact bag_well _ _ _ (by omega) (by omega)
    · exact bags_bag cs (k + 1) n (by omega) c hc
theorem lawL_ok {i : Nat} {F : Rho → Option Out} (J : Rho → Prop) : ∀ (cs : List (List Int)), (∀ c ∈ cs, ∀ ρ, J ρ → ∃ ρ', F (ρ.set i (.own (intsD c))) = some (.nx ρ') ∧ J ρ') → ∀ ρ, J ρ → ∃ ρ', lawL i F cs ρ = some (.nx ρ') ∧ J ρ'
  | [], h, ρ, j => ⟨ρ, rfl, j⟩
  | c :: cs, h, ρ, j => by
    obtain ⟨ρ1, e1, j1⟩ := h c (by simp) ρ j
    obtain ⟨ρ2, e2, j2⟩ := lawL_ok J cs (fun c hc => h c (by simp [hc])) ρ1 j1
    refine ⟨ρ2, ?_, j2⟩
    unfold lawL
    rw [e1]
    exact e2
/-- the law's loop over its draws -/
theorem lawF_ok {i n : Nat} {a : Addr} {ns : List Int} {F : Rho → Option Out} (hn : n ≤ 63) (J : Rho → Prop) (hJ : ∀ ρ, J ρ → ρ[0]? = some (.raw (.ref a))) (h : ∀ bs ρ, Bag 100000 bs → J ρ → ∃ ρ', F (ρ.set i (.own bs)) = some (.nx ρ') ∧ J ρ') {ρ : Rho} (j : J ρ) :
    ∃ ρ', lawF i 0 n a ns F ρ = some (.nx ρ') ∧ J ρ' := by
  have hl : (cellsOf ns n).length ≤ 64 := by unfold cellsOf; rw [List.length_append, List.length_take]; simp; omega
  obtain ⟨ρ', e, j'⟩ := lawL_ok (i := i) (F := F) J (bagsL 0 (cellsOf ns n)) (fun c hc ρ j => h _ ρ (bags_bag _ 0 100000 (by omega) c hc) j) ρ j
  refine ⟨ρ', ?_, j'⟩
  unfold lawF
  rw [hJ ρ j]
  simp only [if_true]
  exact e
theorem seq_nx {F G : Rho → Option Out} {ρ ρ1 : Rho} {r : Option Out} (h : F ρ = some (.nx ρ1)) (h2 : G ρ1 = r) : seqF F G ρ = r := by
  simp [seqF, h, h2]
theorem pick2 {a b r : Int} (h0 : 0 ≤ r) (h : r < 2) : ∃ m, atI [PyData.int a, .int b] r = some (.int m) ∧ (m = a ∨ m = b) := by
  rcases (show r = 0 ∨ r = 1 by omega) with rfl | rfl
  · exact ⟨a, by simp, .inl rfl⟩
  · exact ⟨b, by simp, .inr rfl⟩
theorem pick3 {a b c r : Int} (h0 : 0 ≤ r) (h : r < 3) : ∃ m, atI [PyData.int a, .int b, .int c] r = some (.int m) ∧ (m = a ∨ m = b ∨ m = c) := by
  rcases (show r = 0 ∨ r = 1 ∨ r = 2 by omega) with rfl | rfl | rfl
  · exact ⟨a, by simp, .inl rfl⟩
  · exact ⟨b, by simp, .inr (.inl rfl)⟩
  · exact ⟨c, by simp, .inr (.inr rfl)⟩
theorem pick4 {a b c d r : Int} (h0 : 0 ≤ r) (h : r < 4) : ∃ m, atI [PyData.int a, .int b, .int c, .int d] r = some (.int m) ∧ (m = a ∨ m = b ∨ m = c ∨ m = d) := by
  rcases (show r = 0 ∨ r = 1 ∨ r = 2 ∨ r = 3 by omega) with rfl | rfl | rfl | rfl
  · exact ⟨a, by simp, .inl rfl⟩
  · exact ⟨b, by simp, .inr (.inl rfl)⟩
  · exact ⟨c, by simp, .inr (.inr (.inl rfl))⟩
  · exact ⟨d, by simp, .inr (.inr (.inr rfl))⟩
end DL

/-! ## enumerate of a tuple -/
namespace DL
open PySem
set_option maxHeartbeats 1000000 in
theorem meets_enumerate_new1 {v : Value} {o : Obj} {H : Heap → Prop} (B : Begins v o H) :
    Meets (Builtin.«enumerate.__new__» ⟨[.type "enumerate", v], []⟩) (fun _ R s => H s.heap ∧
      R (.ok (.ret (.ref (s.heap.push o).objs.size))) { s with heap := (s.heap.push o).push { cls := .type "enumerate", data := .fields #[.none, .bool false, .ref s.heap.objs.size, rawInt 0, .none, .none] } }) :=
  .of_wp fun prog w A R s h => by
    obtain ⟨hp, g, d, tk, os⟩ := s
    obtain ⟨h1, h⟩ := h
    have hsub := sub_enumerate
    have q1 : ∀ {A' : Around} {E : Value → Shared → Prop} {Q : Value → Shared → Prop}, Q (.ref hp.objs.size) ⟨hp.push o, g, d, tk, os⟩ → wpAny (model prog w) A' (pyIter v) Q E ⟨hp, g, d, tk, os⟩ :=
      fun q => B.iter prog w _ _ ⟨hp, g, d, tk, os⟩ _ h1 q
    wp_walk using q1
    refine wpAny_stack_any fun st => wpAny_pure ?_
    split
    · rename_i c _ _ _ _ _
      cases (c == Value.type "enumerate")
      · wp_walk using q1
        exact ⟨_, rfl, h⟩
      · wp_walk using q1
        exact ⟨_, rfl, h⟩
    · wp_walk using q1
      exact ⟨_, rfl, h⟩
theorem enum_begins1 {prog : Program} {w : World} {A : Around} {E : Value → Shared → Prop} {s : Shared} {v : Value} {o : Obj} {H : Heap → Prop} {Q : Value → Shared → Prop} (B : Begins v o H) (h1 : H s.heap)
    (h : ∀ h', IsEnum h' (s.heap.objs.size + 1) s.heap.objs.size 0 .none → h'.get? s.heap.objs.size = some o → h'.objs.size = s.heap.objs.size + 2 →
      (∀ b o, s.heap.get? b = some o → h'.get? b = some o) → Q (.ref (s.heap.objs.size + 1)) { s with heap := h' }) :
    wpAny (model prog w) A (call (.type "enumerate") [v]) Q E s := by
  refine callType_new F.called_enumerate (by decide) (F.typeCall_enumerate_1 _) (F.newCall_enumerate_1 _) (fun obj => F.args_object_init_2 obj _) F.entry_enumerate_new
    (meets_enumerate_new1 B) ⟨h1, ?_⟩
  have hz : (s.heap.push o).objs.size = s.heap.objs.size + 1 := Heap.size_push ..
  show _ ∧ _
  rw [hz]
  have he : IsEnum ((s.heap.push o).push { cls := .type "enumerate", data := .fields #[.none, .bool false, .ref s.heap.objs.size, rawInt 0, .none, .none] }) (s.heap.objs.size + 1) s.heap.objs.size 0 .none := by
    have := Heap.get?_push_size (s.heap.push o) (o := { cls := .type "enumerate", data := .fields #[.none, .bool false, .ref s.heap.objs.size, rawInt 0, .none, .none] }) rfl
    rw [hz] at this
    exact this
  exact ⟨⟨_, he, rfl⟩, h _ he (Heap.get?_push_of_some _ (Heap.get?_push_size _ B.free)) (by rw [Heap.size_push, hz]) fun b o x => Heap.get?_push_of_some _ (Heap.get?_push_of_some _ x)⟩
end DL
namespace DL
open PySem PySem.Spec
open PyProof.Rows hiding St
open L2
/-- the tuple at a, each item in a new pair -/
def ItEn (K : PySem.W.Frag) (a : Addr) : It :=
  ⟨fun i H => ∃ (xs : List V) (x : V), SqT K H a xs ∧ xs[i]? = some x, fun i H v H' => ∃ T x, v = .ref T ∧ H T = none ∧ H' = upd H T (.tup [.int (i : Nat), x]) ∧ ∀ xs, SqT K H a xs → xs[i]? = some x, fun i H => ∃ xs : List V, SqT K H a xs ∧ xs.length ≤ i⟩
theorem turn_enumT {P : Program} {w : World} {K : PySem.W.Frag} {elts : List Expr} {kk : Nat} {tpos : Pos} (a e it : Addr) (hae : a ≠ it) :
    Turn P w K (.Tuple elts kk tpos) (ItEn K a) [e, it] e (fun i h => (∃ old, IsEnum h e it ((i : Nat) : Int) old) ∧ h.IsTupleIter it a i ∧ e ≠ it) where
  mem := by simp
  obj := fun i h st b hb => by
    obtain ⟨⟨old, he⟩, ⟨o, ho, hc, hd⟩, _⟩ := st
    have e' : b = e ∨ b = it := by simpa using hb
    rcases e' with z | z
    · rw [z]; exact ⟨_, he, fun v q => nomatch q⟩
    · rw [z]; exact ⟨o, ho, fun v q => by rw [hd] at q; cases q⟩
  keep := fun i h h' st k => let ⟨⟨old, he⟩, hi, hne⟩ := st; ⟨⟨old, k e (by simp) _ he⟩, hi.at fun o q => k it (by simp) o q, hne⟩
  item := by
    intro X hP hw hK hc i pins s σ H E I hf st hg
    subst hP hw hK
    obtain ⟨⟨old, he⟩, hit, hne⟩ := st
    obtain ⟨xs, x, hq, hx⟩ := hg
    obtain ⟨its, rv, p, hz⟩ := I.tuple hq
    obtain ⟨u, hu, ru⟩ := rv.get hx
    have hel : e < s.heap.objs.size := Heap.lt_size he
    have hil : it < s.heap.objs.size := by obtain ⟨_, q, _⟩ := hit; exact Heap.lt_size q
    have hea : e ≠ a := fun z => by
      obtain ⟨o, ho, hco, _⟩ := p
      rw [← z] at ho
      rw [he] at ho
      cases ho
      exact absurd (Value.type.inj hco) (by decide)
    have pt : s.heap.IsTuple a its.toArray := p
    have hi : i < its.toArray.size := by
      have := (List.getElem?_eq_some_iff.mp hu).1
      simpa using this
    refine wpAny_pyNext_enum_itemD (Draws.tuple (show X.A.in1.handled = none from I.ok.hd hc) it a hae its.toArray) he ⟨hit, pt⟩ hi hne (by simp [hne, hea]) fun y h' tk hy ho hst hT hsz hk => ?_
    obtain ⟨hit', _⟩ := hst
    have ey : y = u := by
      have hu' : its.toArray[i]? = some u := by simpa using hu
      rw [hu'] at hy
      exact (Option.some.inj hy).symm
    subst ey
    refine ⟨_, rfl, wpAny_letOwnedTupleGo_enum (s := { s with heap := h', toks := tk + 1 }) ho fun h'' he' sb => ?_⟩
    have hT2 : h''.get? s.heap.objs.size = some { cls := .type "tuple", data := .seq #[.int i tk, y] } := (sb.2 _ (Nat.ne_of_gt hel)).trans hT
    have new : ObjOk X.prog X.w (upd H s.heap.objs.size (.tup [.int (i : Nat), x])) h'' s.heap.objs.size (.tup [.int (i : Nat), x]) :=
      ⟨by show 2 ≤ sizeLine; decide, [.int i tk, y], .cons ⟨_, rfl⟩ (.cons ru .nil), ⟨_, hT2, rfl, _, rfl⟩⟩
    have I1 : Inv X pins σ (upd H s.heap.objs.size (.tup [.int (i : Nat), x])) { s with heap := h'', toks := tk + 1 } :=
      I.turnedNew (ch := [e, it]) (fun b ob hb q => (sb.2 b (fun z => hb (by simp [z]))).trans (hk b ob (fun z => hb (by simp [z])) (fun z => hb (by simp [z])) q)) hf (Nat.le_refl _) new
    refine ⟨.ref s.heap.objs.size, _, I1, rfl, ⟨_, x, rfl, I.hok.fresh (Nat.le_refl _), rfl, fun ys hy => by rw [I.tuple_inj hy hq]; exact hx⟩, ⟨⟨y, ?_⟩, hit'.at fun o q => (sb.2 it (Ne.symm hne)).trans q, hne⟩, fun b hb => ?_⟩
    · have e1 : ((i + 1 : Nat) : Int) = (i : Int) + 1 := by omega
      rw [e1]; exact he'
    · have hb' : b < s.heap.objs.size := by
        have e' : b = e ∨ b = it := by simpa using hb
        rcases e' with z | z
        · rw [z]; exact hel
        · rw [z]; exact hil
      rw [upd_ne (Nat.ne_of_lt hb')]
      exact (hf b hb).1
  done := by
    intro X hP hw hK hc i pins s σ H E I hf st hg
    subst hP hw hK
    obtain ⟨⟨old, he⟩, hit, hne⟩ := st
    obtain ⟨xs, hq, hx⟩ := hg
    obtain ⟨its, rv, p, hz⟩ := I.tuple hq
    obtain ⟨f0, f1, f2, f3, f4, f5⟩ := hf it (by simp)
    have hl := rv.length
    have pt : s.heap.IsTuple a its.toArray := p
    unfold pyNext
    have hT : s.TypeIs (.ref e) "enumerate" := ⟨_, he, rfl⟩
    refine wpAny_bind (wpAny_attempt (wpAny_callSpecial?_slot (name := Str.ofString "__next__") hT F.slot_enumerate_next
      (wpAny_call_entry F.slot_enumerate_next hT F.entry_enumerate_next ?_ (F.args_enumerate_next_1 _))))
    show wpAny _ _ (field (.ref e) 2 >>= _) _ _ _
    refine wpAny_bind (wpAny_field he rfl (x := .ref it) rfl ?_)
    refine wpAny_bind (wpAny_nextOf_tuple_end (I.ok.hd hc) hit pt (by simp; omega) fun h' x he' hx' => ?_)
    obtain ⟨o, ho, hco⟩ := hx'
    refine wpAny_bind (wpAny_isInstance (T := "StopIteration") (b := true) ⟨o, ho, hco⟩ isSubtype_stop ?_)
    exact wpAny_pure ⟨rfl, I.turned (t' := s.toks) (fun b o hb q => he' b o hb q) f0 f1 f3 f4 f5⟩
  self := fun A i s Q E st h => let ⟨⟨_, he⟩, _⟩ := st; wpAny_pyIter_enum he h
def iEnT (K : PySem.W.Frag) (ta : TA) : TI := fun σ H R => ta σ H fun vs H1 => ∃ a xs, vs = [.ref a] ∧ SqT K H1 a xs ∧ R (ItEn K a) H1
theorem pi_enT {X : Cx} {e : Expr} {ta : TA} {p pos tpos : Pos} {elts : List Expr} {kk : Nat} (hg : Gl X "enumerate") (hm : X.mg "enumerate" = none) (ha : PA X [e] ta) (hs : starEach [e] X.env = [(false, eval e X.env)] := by rfl) :
    PI X (.Tuple elts kk tpos) (.Call (.Name "enumerate" p) [e] [] pos) (iEnT X.K ta) := by
  refine ⟨fun pins s σ H R I h => ?_⟩
  refine Call_ (ld_blt I hg hm boot_enumerate (PyProof.Rows.callWith_type1 (thn (ha.run pos pins s σ H _ I h) fun us s1 ⟨vs, H1, I1, r1, q1⟩ => ?_) hs rfl))
  obtain ⟨a, xs, ex, hq, q⟩ := q1
  subst ex
  cases r1 with
  | cons r rr =>
    cases rr
    cases r
    obtain ⟨its, rv, p', hz⟩ := I1.tuple hq
    have pt : s1.heap.IsTuple a its.toArray := p'
    refine enum_begins1 (begins_tuple a its.toArray) pt fun h' he hit hsz hk => wpAny_pyIter_enum he ?_
    have I2 : Inv X pins σ H1 { s1 with heap := h' } := I1.kept (t' := s1.toks) hk
    have hlt : a < s1.heap.objs.size := by obtain ⟨o, ho, _⟩ := pt; exact Heap.lt_size ho
    refine ⟨s1.heap.objs.size + 1, [s1.heap.objs.size + 1, s1.heap.objs.size], _, _, H1, rfl, I2, turn_enumT a (s1.heap.objs.size + 1) s1.heap.objs.size (Nat.ne_of_lt hlt), ⟨⟨.none, he⟩, ⟨_, hit, rfl, rfl⟩, Nat.succ_ne_self _⟩, fun b hb => ?_, q⟩
    have e' : b = s1.heap.objs.size + 1 ∨ b = s1.heap.objs.size := by simpa using hb
    have hle : s1.heap.objs.size ≤ b := by
      rcases e' with z | z
      · rw [z]; exact Nat.le_add_right _ _
      · rw [z]; exact Nat.le_refl _
    exact I1.fpOk hle (I1.hok.fresh hle)
end DL

namespace DL
open PySem PySem.Spec
open PyProof.Rows hiding St
open L2
/-! ## enumerate, zip as sources -/
def pairD (d e : D) : D := .tuple [d, e]
def enumL : Nat → List D → List D
  | _, [] => []
  | k, d :: ds => .tuple [.int (k : Int), d] :: enumL (k + 1) ds
def zipL : List D → List D → List D
  | d :: ds, e :: es => .tuple [d, e] :: zipL ds es
  | _, _ => []
theorem enumL_get : ∀ (ds : List D) (k i : Nat), (enumL k ds)[i]? = (ds[i]?).map fun d => .tuple [.int ((k + i : Nat) : Int), d]
  | [], k, i => by simp [enumL]
  | d :: ds, k, 0 => by simp [enumL]
  | d :: ds, k, i + 1 => by
    simp only [enumL, List.getElem?_cons_succ]
    rw [enumL_get ds (k + 1) i]
    congr 1
    funext d
    congr 3
    omega
theorem enumL_len : ∀ (ds : List D) (k : Nat), (enumL k ds).length = ds.length
  | [], k => rfl
  | d :: ds, k => by simp [enumL, enumL_len ds (k + 1)]
theorem zipL_get : ∀ (ds es : List D) (i : Nat) (d e : D), ds[i]? = some d → es[i]? = some e → (zipL ds es)[i]? = some (.tuple [d, e])
  | [], es, i, d, e, h, _ => by simp at h
  | d :: ds, [], i, _, _, _, h => by simp at h
  | d :: ds, e :: es, 0, d', e', h, h' => by
    simp at h h'
    simp [zipL, h, h']
  | d :: ds, e :: es, i + 1, d', e', h, h' => by
    simp only [List.getElem?_cons_succ] at h h'
    simp only [zipL, List.getElem?_cons_succ]
    exact zipL_get ds es i d' e' h h'
theorem zipL_len : ∀ (ds es : List D), (zipL ds es).length = min ds.length es.length
  | [], es => by simp [zipL]
  | d :: ds, [] => by simp [zipL]
  | d :: ds, e :: es => by simp [zipL, zipL_len ds es]
@[simp] def enI (g : Rho → Option D) : Rho → Option (List D) := fun ρ => (g ρ).bind fun d => (seqD d).bind fun ds => some (enumL 0 ds)
@[simp] def zip2 : D → D → Option (List D)
  | .list ds, .list es => some (zipL ds es)
  | .tuple ds, .tuple es => some (zipL ds es)
  | _, _ => none
@[simp] def zipI (ga gb : Rho → Option D) : Rho → Option (List D) := fun ρ => (ga ρ).bind fun d => (gb ρ).bind fun e => zip2 d e
theorem src_enT {K : PySem.W.Frag} {O : Addr → Prop} {H : Hp} {a : Addr} {vs : List V} {ds : List D} (ha : H a = some (.tup vs)) (r : RepL O H ds vs) : Src O H (ItEn K a) (enumL 0 ds) := by
  refine ⟨fun O H => H a = some (.tup vs) ∧ RepL O H ds vs, ⟨ha, r⟩, fun O H O' H' m ⟨h2, h3⟩ => ⟨m.keep a _ h2 (.inl fun us z => by cases z), RepL.mv m _ _ h3⟩, fun i O H hi ⟨h2, h3⟩ => ?_, fun O H ⟨h2, h3⟩ => ?_, fun i O H x H' hi _ ⟨h2, h3⟩ y => ?_⟩
  · rw [enumL_len] at hi
    have hl := h3.length
    exact ⟨vs, vs[i], .of h2, by simp [← hl, hi]⟩
  · rw [enumL_len]
    exact ⟨vs, .of h2, by rw [h3.length]; exact Nat.le_refl _⟩
  · obtain ⟨T, x1, rfl, hT, rfl, yx⟩ := y
    obtain ⟨d, e1, r1⟩ := h3.getV (yx vs (.of h2))
    refine ⟨.tuple [.int (i : Int), d], by rw [enumL_get, e1, Nat.zero_add]; rfl, same_upd hT, ?_⟩
    exact rep_tup hT (.cons (rep_int.mpr rfl) (.cons r1 .nil))
theorem src_enL {K : PySem.W.Frag} {O : Addr → Prop} {H : Hp} {a : Addr} {vs : List V} {ds : List D} (no : ¬ O a) (ha : H a = some (.lst vs)) (r : RepL O H ds vs) : Src O H (Ite K a) (enumL 0 ds) := by
  refine ⟨fun O H => ¬ O a ∧ H a = some (.lst vs) ∧ RepL O H ds vs, ⟨no, ha, r⟩, fun O H O' H' m ⟨h1, h2, h3⟩ => ⟨fun z => ?_, m.keep a _ h2 (.inr h1), RepL.mv m _ _ h3⟩, fun i O H hi ⟨h1, h2, h3⟩ => ?_, fun O H ⟨h1, h2, h3⟩ => ?_, fun i O H x H' hi _ ⟨h1, h2, h3⟩ y => ?_⟩
  · rcases m.out a z with q | q
    · exact h1 q
    · rw [h2] at q; cases q
  · rw [enumL_len] at hi
    have hl := h3.length
    exact ⟨vs, vs[i], .of h2, by simp [← hl, hi]⟩
  · rw [enumL_len]
    exact ⟨vs, .of h2, by rw [h3.length]; exact Nat.le_refl _⟩
  · obtain ⟨T, x1, rfl, hT, rfl, yx⟩ := y
    obtain ⟨d, e1, r1⟩ := h3.getV (yx vs (.of h2))
    refine ⟨.tuple [.int (i : Int), d], by rw [enumL_get, e1, Nat.zero_add]; rfl, same_upd hT, ?_⟩
    exact rep_tup hT (.cons (rep_int.mpr rfl) (.cons r1 .nil))
theorem src_zip {O : Addr → Prop} {H : Hp} {J : It} {S1 S2 : Hp → List V → Prop} {vs ws : List V} {ds es : List D} {G1 G2 : (Addr → Prop) → Hp → Prop} (h1 : G1 O H) (h2 : G2 O H) (m1 : ∀ O H O' H', Mv O H O' H' → G1 O H → G1 O' H') (m2 : ∀ O H O' H', Mv O H O' H' → G2 O H → G2 O' H')
    (k1 : ∀ O H, G1 O H → S1 H vs ∧ RepL O H ds vs) (k2 : ∀ O H, G2 O H → S2 H ws ∧ RepL O H es ws)
    (go : ∀ i H x y, S1 H vs → S2 H ws → vs[i]? = some x → ws[i]? = some y → J.go i H) (st : ∀ i H, S1 H vs → S2 H ws → (vs.length ≤ i ∨ ws.length ≤ i) → J.stop i H)
    (yl : ∀ i H v H', S1 H vs → S2 H ws → J.yld i H v H' → ∃ T x y, v = .ref T ∧ H T = none ∧ H' = upd H T (.tup [x, y]) ∧ vs[i]? = some x ∧ ws[i]? = some y) : Src O H J (zipL ds es) := by
  refine ⟨fun O H => G1 O H ∧ G2 O H, ⟨h1, h2⟩, fun O H O' H' m ⟨a, b⟩ => ⟨m1 _ _ _ _ m a, m2 _ _ _ _ m b⟩, fun i O H hi ⟨a, b⟩ => ?_, fun O H ⟨a, b⟩ => ?_, fun i O H x H' hi _ ⟨a, b⟩ y => ?_⟩
  · rw [zipL_len] at hi
    obtain ⟨s1, r1⟩ := k1 _ _ a
    obtain ⟨s2, r2⟩ := k2 _ _ b
    have l1 := r1.length
    have l2 := r2.length
    exact go i H vs[i] ws[i] s1 s2 (List.getElem?_eq_getElem (by omega)) (List.getElem?_eq_getElem (by omega))
  · obtain ⟨s1, r1⟩ := k1 _ _ a
    obtain ⟨s2, r2⟩ := k2 _ _ b
    have l1 := r1.length
    have l2 := r2.length
    rw [zipL_len]
    exact st _ H s1 s2 (by omega)
  · obtain ⟨s1, r1⟩ := k1 _ _ a
    obtain ⟨s2, r2⟩ := k2 _ _ b
    obtain ⟨T, x1, x2, rfl, hT, rfl, e1, e2⟩ := yl i H x H' s1 s2 y
    obtain ⟨d, f1, q1⟩ := r1.getV e1
    obtain ⟨e, f2, q2⟩ := r2.getV e2
    exact ⟨_, zipL_get ds es i d e f1 f2, same_upd hT, rep_tup hT (.cons q1 (.cons q2 .nil))⟩
section
variable {X : Cx} {B : Base} {e e2 : Expr} {g g2 : Rho → Option D} {pos p tpos : Pos} {elts : List Expr} {kk : Nat}
theorem di_enum (hm : X.mg "enumerate" = none) (h : DP X B .str e g) (hg : Gl X "enumerate" := by rfl) (hs : starEach [e] X.env = [(false, eval e X.env)] := by rfl) (hs' : starEach [e] X.env = (false, eval e X.env) :: starEach [] X.env := by rfl) : DI X B (.Tuple elts kk tpos) (.Call (.Name "enumerate" p) [e] [] pos) (enI g) :=
  ⟨((pi_enum hg hm (pa_cons h.pe pa_nil hs') hs).or (pi_enT hg hm (pa_cons h.pe pa_nil hs') hs)).imp fun σ H R ⟨O, ρ, ds, gd, e, q⟩ => by
    obtain ⟨d, e1, e2⟩ := bind_some e
    obtain ⟨es, e3, e4⟩ := bind_some e2
    cases e4
    unfold seqD at e3
    split at e3
    · cases e3
      refine .inl ⟨O, ρ, _, gd, e1, fun v H1 s1 r1 => ?_⟩
      simp only [Rep] at r1
      obtain ⟨a, vs, rfl, no, ha, r⟩ := r1
      exact ⟨a, vs, rfl, .of ha, q _ H1 s1 (src_enL no ha r)⟩
    · cases e3
      refine .inr ⟨O, ρ, _, gd, e1, fun v H1 s1 r1 => ?_⟩
      simp only [Rep] at r1
      obtain ⟨a, vs, rfl, ha, r⟩ := r1
      exact ⟨a, vs, rfl, .of ha, q _ H1 s1 (src_enT ha r)⟩
    · cases e3⟩
theorem di_zip (hm : X.mg "zip" = none) (h : DP X B .str e g) (h2 : DP X B .str e2 g2) (hg : Gl X "zip" := by rfl) (hs : starEach [e, e2] X.env = (false, eval e X.env) :: starEach [e2] X.env := by rfl) (hs2 : starEach [e2] X.env = (false, eval e2 X.env) :: starEach [] X.env := by rfl) (hpl : (backTo pos (starEach [e2] X.env)).any (·.1) = false := by rfl) :
    DI X B (.Tuple elts kk tpos) (.Call (.Name "zip" p) [e, e2] [] pos) (zipI g g2) :=
  ⟨(RZ.pi_zipA hg hm (pa_cons h.pe (pa_cons h2.pe pa_nil hs2) hs) hs hpl).imp fun σ H R ⟨O, ρ, ds, gd, e, q⟩ => by
    obtain ⟨d1, e1, e'⟩ := bind_some e
    obtain ⟨d2, e2, e3⟩ := bind_some e'
    refine ⟨O, ρ, d1, gd, e1, fun v H1 s1 r1 => ⟨O, ρ, d2, gd.same s1, e2, fun w H2 s2 r2 => ?_⟩⟩
    have r1 := r1.same s2
    unfold zip2 at e3
    split at e3
    · cases e3
      simp only [Rep] at r1 r2
      obtain ⟨a, vs, rfl, no, ha, r1⟩ := r1
      obtain ⟨b, ws, rfl, no2, hb, r2⟩ := r2
      refine ⟨a, b, vs, ws, rfl, .inl ⟨.of ha, .of hb, q _ H2 (s1.trans s2) ?_⟩⟩
      refine src_zip (S1 := fun H xs => H a = some (.lst xs)) (S2 := fun H xs => H b = some (.lst xs)) (G1 := fun O H => ¬ O a ∧ H a = some (.lst vs) ∧ RepL O H _ vs) (G2 := fun O H => ¬ O b ∧ H b = some (.lst ws) ∧ RepL O H _ ws) ⟨no, ha, r1⟩ ⟨no2, hb, r2⟩
        (fun O H O' H' m ⟨h1, h2, h3⟩ => ⟨fun z => (m.out a z).elim h1 (fun q => by rw [h2] at q; cases q), m.keep a _ h2 (.inr h1), RepL.mv m _ _ h3⟩)
        (fun O H O' H' m ⟨h1, h2, h3⟩ => ⟨fun z => (m.out b z).elim h1 (fun q => by rw [h2] at q; cases q), m.keep b _ h2 (.inr h1), RepL.mv m _ _ h3⟩)
        (fun O H h => h.2) (fun O H h => h.2) (fun i H x y h1 h2 e1 e2 => ⟨vs, ws, x, y, .of h1, .of h2, e1, e2⟩) (fun i H h1 h2 h => ⟨vs, ws, .of h1, .of h2, h⟩) fun i H v H' h1 h2 y => ?_
      obtain ⟨T, x, y, h3, h4, h5, h6, h7⟩ := y
      exact ⟨T, x, y, h3, h4, h5, h6 vs (.of h1), h7 ws (.of h2)⟩
    · cases e3
      simp only [Rep] at r1 r2
      obtain ⟨a, vs, rfl, ha, r1⟩ := r1
      obtain ⟨b, ws, rfl, hb, r2⟩ := r2
      refine ⟨a, b, vs, ws, rfl, .inr ⟨.of ha, .of hb, q _ H2 (s1.trans s2) ?_⟩⟩
      refine src_zip (S1 := fun H xs => H a = some (.tup xs)) (S2 := fun H xs => H b = some (.tup xs)) (G1 := fun O H => H a = some (.tup vs) ∧ RepL O H _ vs) (G2 := fun O H => H b = some (.tup ws) ∧ RepL O H _ ws) ⟨ha, r1⟩ ⟨hb, r2⟩
        (fun O H O' H' m ⟨h2, h3⟩ => ⟨m.keep a _ h2 (.inl fun us z => by cases z), RepL.mv m _ _ h3⟩)
        (fun O H O' H' m ⟨h2, h3⟩ => ⟨m.keep b _ h2 (.inl fun us z => by cases z), RepL.mv m _ _ h3⟩)
        (fun O H h => h) (fun O H h => h) (fun i H x y h1 h2 e1 e2 => ⟨vs, ws, x, y, .of h1, .of h2, e1, e2⟩) (fun i H h1 h2 h => ⟨vs, ws, .of h1, .of h2, h⟩) fun i H v H' h1 h2 y => ?_
      obtain ⟨T, x, y, h3, h4, h5, h6, h7⟩ := y
      exact ⟨T, x, y, h3, h4, h5, h6 vs (.of h1), h7 ws (.of h2)⟩
    · cases e3⟩
end
/-! ## comprehensions -/
def SrcC (O : Addr → Prop) (H : Hp) (J : It) (ds : List D) : Prop := ∀ O' H', Same H H' → (∀ b, O' b → O b ∨ H b = none) → Otr O' H' → (∀ i, i < ds.length → J.go i H') ∧ J.stop ds.length H' ∧
  ∀ i x H2, i < ds.length → J.yld i H' x H2 → ∃ d, ds[i]? = some d ∧ Same H' H2 ∧ Rep O' H2 d x
def tItC (B : Base) (gs : Rho → Option (List D)) : TI := fun σ H R => ∃ O ρ ds, Good B O σ H ρ ∧ gs ρ = some ds ∧ ∀ J H', Same H H' → SrcC O H' J ds → R J H'
structure DIC (X : Cx) (B : Base) (tg e : Expr) (gs : Rho → Option (List D)) : Prop where
  pi : PI X tg e (tItC B gs)
structure DTs (X : Cx) (B : Base) (ifs : List Expr) (g : Rho → Option Bool) : Prop where
  pts : PTs X ifs (tPT B g)
@[simp] def yesT : Rho → Option Bool := fun _ => some true
def wipeR (ρ : Rho) : List Nat → Rho
  | [] => ρ
  | v :: vs => (wipeR ρ vs).set v .nil
def compL (b : D → Rho → Option Rho) (t : Rho → Option Bool) (g : Rho → Option D) (ρ : Rho) : List D → Option (List D)
  | [] => some []
  | d :: ds => (b d ρ).bind fun ρ1 => (t ρ1).bind fun c => if c = true then (g ρ1).bind fun e => (compL b t g ρ ds).bind fun es => some (e :: es) else compL b t g ρ ds
@[simp] def lcD (gs : Rho → Option (List D)) (vs : List Nat) (b : D → Rho → Option Rho) (t : Rho → Option Bool) (g : Rho → Option D) : Rho → Option D := fun ρ => (gs ρ).bind fun ds => if ds.length ≤ 100000 then (compL b t g (wipeR ρ vs) ds).bind fun es => some (.list es) else none
theorem Src.toC {O : Addr → Prop} {H : Hp} {J : It} {ds : List D} (s : Src O H J ds) : SrcC O H J ds := by
  obtain ⟨G, g0, gm, ggo, gst, gy⟩ := s
  intro O' H' sm out t
  have g1 := gm O H O' H' ⟨fun b o e _ => sm b o e, out⟩ g0
  exact ⟨fun i hi => ggo i O' H' hi g1, gst O' H' g1, fun i x H2 hi y => gy i O' H' x H2 hi t g1 y⟩
section
variable {B : Base} {O : Addr → Prop} {σ : St} {H H' : Hp} {ρ : Rho}
theorem Good.setNil (g : Good B O σ H ρ) (i : Nat) : Good B O (σ.set i Option.none) H (ρ.set i .nil) ∧ ∀ b, Wof (σ.set i Option.none) (ρ.set i .nil) b → Wof σ ρ b := by
  have hw : ∀ (j : Nat) s, (ρ.set i .nil)[j]? = some s → isOwn s = true → i ≠ j ∧ ρ[j]? = some s := fun j s e q => by
    by_cases hj : i = j
    · subst hj
      by_cases hl : i < ρ.length
      · rw [List.getElem?_set_self hl] at e; cases e; cases q
      · rw [List.getElem?_eq_none (by simpa using hl)] at e; cases e
    · exact ⟨hj, by rw [get_set_ne hj] at e; exact e⟩
  refine ⟨⟨by simp [g.len], g.frame, g.o0, g.r0, g.osub, g.otrk, g.h0, fun j s e => ?_, fun j k s t b e1 e2 q1 q2 e3 e4 => ?_⟩, fun b ⟨j, s, e, q, e3⟩ => ?_⟩
  · by_cases hj : i = j
    · subst hj
      by_cases hl : i < ρ.length
      · rw [List.getElem?_set_self hl] at e
        cases e
        trivial
      · rw [List.getElem?_eq_none (by simpa using hl)] at e; cases e
    · rw [get_set_ne hj] at e
      rw [get_set_ne hj]
      exact g.slots j s e
  · obtain ⟨h1, k1⟩ := hw j s e1 q1
    obtain ⟨h2, k2⟩ := hw k t e2 q2
    rw [get_set_ne h1] at e3
    rw [get_set_ne h2] at e4
    exact g.sep j k s t b k1 k2 q1 q2 e3 e4
  · obtain ⟨h1, k1⟩ := hw j s e q
    rw [get_set_ne h1] at e3
    exact ⟨j, s, k1, q, e3⟩
theorem Good.wipe (g : Good B O σ H ρ) : ∀ vs : List Nat, Good B O (wipe σ vs) H (wipeR ρ vs) ∧ ∀ b, Wof (L2.wipe σ vs) (wipeR ρ vs) b → Wof σ ρ b
  | [] => ⟨g, fun _ h => h⟩
  | v :: vs => by
    obtain ⟨h1, h2⟩ := g.wipe vs
    obtain ⟨h3, h4⟩ := h1.setNil v
    exact ⟨h3, fun b h => h2 b (h4 b h)⟩
theorem wipe_eq : ∀ {vs : List Nat} {σ σ' : St}, σ'.length = σ.length → (∀ j, j ∉ vs → σ'[j]? = σ[j]?) → L2.wipe σ' vs = L2.wipe σ vs
  | [], σ, σ', _, h => by
    apply List.ext_getElem?
    intro j
    exact h j (by simp)
  | v :: vs, σ, σ', hl, h => by
    have hw : ∀ (us : List Nat) (τ : St) (j : Nat), (L2.wipe τ us)[j]? = if j ∈ us then (if j < τ.length then some none else none) else τ[j]? := by
      intro us
      induction us with
      | nil => intro τ j; simp [L2.wipe]
      | cons u us ih =>
        intro τ j
        show ((L2.wipe τ us).set u none)[j]? = _
        by_cases hj : u = j
        · subst hj
          simp only [List.mem_cons, true_or, if_true]
          by_cases hlt : u < τ.length
          · rw [List.getElem?_set_self (by rw [wipe_length]; exact hlt), if_pos hlt]
          · rw [List.getElem?_eq_none (by rw [List.length_set, wipe_length]; omega), if_neg hlt]
        · rw [List.getElem?_set_ne hj, ih τ j]
          have : (j ∈ u :: us) ↔ j ∈ us := by
            simp only [List.mem_cons]
            exact ⟨fun z => z.elim (fun e => absurd e.symm hj) id, .inr⟩
          simp only [this]
    apply List.ext_getElem?
    intro j
    rw [hw, hw, hl]
    split
    · rfl
    · next hn => exact h j hn
theorem wipe_wipe (σ : St) (vs : List Nat) : L2.wipe (L2.wipe σ vs) vs = L2.wipe σ vs := by
  refine wipe_eq (by rw [wipe_length]) fun j hj => wipe_out hj
/-- a change at a list that nothing but the builder holds -/
theorem Good.at (g : Good B O σ H ρ) {Dl : Addr} {us : List V} (hD : O Dl) (hB : B.H0 Dl = Option.none) (hW : ¬ Wof σ ρ Dl) (hl : ∃ vs, H Dl = some (.lst vs)) : Good B O σ (upd H Dl (.lst us)) ρ := by
  have mv : Mv O H O (upd H Dl (.lst us)) := ⟨fun b o e q => by
    rw [upd_ne]
    · exact e
    · rintro rfl
      obtain ⟨vs, h⟩ := hl
      rw [h] at e
      cases e
      rcases q with q | q
      · exact q vs rfl
      · exact q hD, fun _ h => .inl h⟩
  have ne : ∀ b, H b ≠ Option.none → upd H Dl (.lst us) b ≠ Option.none := fun b h => by
    by_cases e : b = Dl
    · rw [e]; exact some_ne upd_same
    · rw [upd_ne e]; exact h
  refine ⟨g.len, fun b o e n => ?_, g.o0, g.r0, g.osub, fun b h => ne b (g.otrk b h), fun b h => ne b (g.h0 b h), fun i t e => ?_, g.sep⟩
  · rw [upd_ne]
    · exact g.frame b o e n
    · rintro rfl
      rw [hB] at e; cases e
  · have k := g.slots i t e
    cases t with
    | nil => trivial
    | dat d => exact SlOk.mv mv rfl k
    | own ds =>
      obtain ⟨a, vs, e1, h1, h2, h3, h4, r⟩ := k
      have : a ≠ Dl := by rintro rfl; exact hW ⟨i, _, e, rfl, e1⟩
      exact ⟨a, vs, e1, h1, h2, h3, by rw [upd_ne this]; exact h4, RepL.mv mv _ _ r⟩
    | bag ds =>
      obtain ⟨a, vs, e1, h1, h2, h4, r⟩ := k
      have : a ≠ Dl := by rintro rfl; exact hW ⟨i, _, e, rfl, e1⟩
      exact ⟨a, vs, e1, h1, h2, by rw [upd_ne this]; exact h4, RepL.mv mv _ _ r⟩
    | raw v => exact k
end
theorem lc_imp {B : Base} {gs : Rho → Option (List D)} {vs is : List Nat} {b : D → Rho → Option Rho} {t : Rho → Option Bool} {g : Rho → Option D} (his : ∀ i ∈ is, i ∈ vs) {σ : St} {H : Hp} {Q : VK}
    (h : ∃ O ρ es, Good B O σ H ρ ∧ lcD gs vs b t g ρ = some (.list es) ∧ ∀ a us H', Same H H' → H a = none → H' a = some (.lst us) → RepL (fun b => O b ∨ b = a) H' es us → Q (.ref a) H') :
    tLc (tItC B gs) (tG B is b) (tPT B t) (tP B .str g) vs σ H Q := by
  obtain ⟨O, ρ, tot, gd, e, q⟩ := h
  obtain ⟨ds, e1, e2⟩ := bind_some e
  split at e2
  case isFalse => cases e2
  next hlen =>
  obtain ⟨es, e3, e4⟩ := bind_some e2
  cases e4
  refine ⟨O, ρ, ds, gd, e1, fun J H1 s1 src Dl hD => ?_⟩
  have g1 := gd.same s1
  obtain ⟨nD, nD0, hD0⟩ := g1.fresh hD
  have sD : Same H1 (upd H1 Dl (.lst [])) := same_upd hD
  obtain ⟨gw, ww⟩ := g1.wipe vs
  have g2 : Good B (fun b => O b ∨ b ∈ [Dl]) (wipe σ vs) (upd H1 Dl (.lst [])) (wipeR ρ vs) := gw.more sD (fun b hb => by
    have : b = Dl := by simpa using hb
    rw [this]; exact hD) fun b hb => by
    have : b = Dl := by simpa using hb
    rw [this]; exact some_ne upd_same
  have nW : ¬ Wof (wipe σ vs) (wipeR ρ vs) Dl := fun z => nD (gw.wof z).1
  refine ⟨fun i n Hi => n = ds.length - i ∧ i ≤ ds.length ∧ ∃ acc fs rest, Hi Dl = some (.lst acc) ∧ Same H1 Hi ∧ Good B (fun b => O b ∨ b ∈ [Dl]) (wipe σ vs) Hi (wipeR ρ vs) ∧ RepL (fun b => O b ∨ b = Dl) Hi fs acc ∧ acc.length ≤ i ∧ compL b t g (wipeR ρ vs) (ds.drop i) = some rest ∧ fs ++ rest = tot,
    ⟨ds.length, by simp, Nat.zero_le _, [], [], tot, upd_same, sD, g2, .nil, Nat.le_refl _, by simpa using e3, rfl⟩, ?_⟩
  rintro i n Hi ⟨rfl, hi, acc, fs, rest, hacc, sHi, gi, rfs, hal, ec, etot⟩
  obtain ⟨sgo, sst, sy⟩ := src (fun b => O b ∨ b ∈ [Dl]) Hi sHi (fun b h => h.elim .inl fun z => .inr (by
    have : b = Dl := by simpa using z
    rw [this]; exact hD)) gi.otrk
  by_cases hlt : i < ds.length
  · rw [List.drop_eq_getElem_cons hlt] at ec
    obtain ⟨ρ1, c1, c2⟩ := bind_some ec
    obtain ⟨k, c3, c4⟩ := bind_some c2
    refine .inr ⟨sgo i hlt, fun Hn => i + 1 ≤ ds.length ∧ ∃ acc fs rest, Hn Dl = some (.lst acc) ∧ Same H1 Hn ∧ Good B (fun b => O b ∨ b ∈ [Dl]) (wipe σ vs) Hn (wipeR ρ vs) ∧ RepL (fun b => O b ∨ b = Dl) Hn fs acc ∧ acc.length ≤ i + 1 ∧ compL b t g (wipeR ρ vs) (ds.drop (i + 1)) = some rest ∧ fs ++ rest = tot,
      fun Hn ⟨h1, h2⟩ => ⟨ds.length - (i + 1), by omega, rfl, h1, h2⟩, fun x H2 y => ?_⟩
    obtain ⟨d, ed, s2, rx⟩ := sy i x H2 hlt y
    have ed2 : ds[i] = d := by
      rw [List.getElem?_eq_getElem hlt] at ed
      exact Option.some.inj ed
    subst ed2
    refine ⟨_, wipeR ρ vs, _, ρ1, gi.same s2, rx, c1, fun σ2 g3 w3 hσ hl2 => ?_⟩
    have hDi : Hi Dl = some (.lst acc) := hacc
    have nW2 : ¬ Wof σ2 ρ1 Dl := fun z => nW (w3 Dl z)
    have szl : acc.length < sizeLine := by rw [sizeLine_eq]; omega
    refine ⟨(wipe_eq hl2 fun j hj => hσ j fun z => hj (his j z)).trans (wipe_wipe σ vs), (fun b => O b ∨ b ∈ [Dl]), ρ1, k, g3, c3, fun H3 s3 => ?_⟩
    have s13 : Same H1 H3 := (sHi.trans s2).trans s3
    cases k with
    | false =>
      refine ⟨hlt, acc, fs, rest, s3 _ _ (s2 _ _ hDi), s13, gi.same (s2.trans s3), rfs.same (s2.trans s3), by omega, c4, etot⟩
    | true =>
      obtain ⟨z, c5, c6⟩ := bind_some c4
      obtain ⟨rest', c7, c8⟩ := bind_some c6
      cases c8
      refine ⟨_, ρ1, z, g3.same s3, c5, fun yv H4 s4 ry => ?_⟩
      have hD4 : H4 Dl = some (.lst acc) := s4 _ _ (s3 _ _ (s2 _ _ hDi))
      refine ⟨acc, hD4, szl, hlt, acc ++ [yv], fs ++ [z], rest', upd_same, fun c o e => ?_, ?_, ?_, by rw [List.length_append]; simp; omega, c7, by rw [List.append_assoc]; exact etot⟩
      · rw [upd_ne (ne_of_none e hD)]
        exact s4 _ _ (s13 _ _ e)
      · exact (gi.same ((s2.trans s3).trans s4)).at (.inr (by simp)) hD0 nW ⟨acc, hD4⟩
      · have r0 : RepL (fun b => O b ∨ b = Dl) H4 (fs ++ [z]) (acc ++ [yv]) := (rfs.same ((s2.trans s3).trans s4)).append (.one (ry.less fun b h => h.elim .inl fun e => .inr (by simp [e])))
        refine RepL.mv ⟨fun b o e q => ?_, fun b h => .inl h⟩ _ _ r0
        rw [upd_ne]
        · exact e
        · rintro rfl
          rw [hD4] at e
          cases e
          rcases q with q | q
          · exact q acc rfl
          · exact q (.inr rfl)
  · have en : i = ds.length := by omega
    subst en
    rw [List.drop_length] at ec
    cases ec
    rw [List.append_nil] at etot
    subst etot
    have : RepL (fun b => O b ∨ b = Dl) Hi fs acc := rfs
    exact .inl ⟨sst, q Dl acc Hi (s1.trans sHi) (s1.free hD) hacc rfs⟩
end DL

namespace DL
open PySem PySem.Spec
open PyProof.Rows hiding St
open L2
/-! ## comprehensions -/
theorem lc_list {gs : Rho → Option (List D)} {vs : List Nat} {b : D → Rho → Option Rho} {t : Rho → Option Bool} {g : Rho → Option D} {ρ : Rho} {d : D} (h : lcD gs vs b t g ρ = some d) : ∃ es, d = .list es := by
  obtain ⟨ds, e1, e2⟩ := bind_some h
  split at e2
  · obtain ⟨es, e3, e4⟩ := bind_some e2
    cases e4
    exact ⟨es, rfl⟩
  · cases e2
theorem rep_fresh {O O' : Addr → Prop} {H' : Hp} {a : Addr} {us : List V} {es : List D} (no : ¬ O a) (s : ∀ b, O b → O' b) (h : H' a = some (.lst us)) (r : RepL O' H' es us) : Rep O H' (.list es) (.ref a) := by
  simp only [Rep]
  exact ⟨a, us, rfl, no, h, r.less s⟩
section
variable {X : Cx} {B : Base} {m : Md} {tg iter elt : Expr} {ifs : List Expr} {scope : Scope} {own : List (Str × Nat)} {is : List Nat} {pos : Pos} {gs : Rho → Option (List D)} {b : D → Rho → Option Rho} {t : Rho → Option Bool} {g : Rho → Option D}
theorem dts_nil : DTs X B [] yesT := ⟨⟨fun pins s σ H Q I ⟨O, ρ, c, gd, e, q⟩ => by
  cases e
  exact pts_nil.run pins s σ H Q I (q H (Same.refl H))⟩⟩
theorem dts_one {c : Expr} (h : DPT X B c t) : DTs X B [c] t := ⟨pts_one h.pt⟩
theorem dic_of (h : DI X B tg iter gs) : DIC X B tg iter gs := ⟨h.pi.imp fun σ H R ⟨O, ρ, ds, gd, e, q⟩ => ⟨O, ρ, ds, gd, e, fun J H' s sr => q J H' s sr.toC⟩⟩
theorem dp_lc (hc : X.calm = true) (hN : X.N.Nodup) (hi : DIC X B tg iter gs) (ok : BlkOk X.N X.env.scope scope own) (his : ∀ i ∈ is, i ∈ own.map (·.2))
    (hg : ∀ (s : Shared) (H : Hp) (C : Addr) (cl : List (Str × Addr)) (fp : List Addr), DG (X.blk s H scope (compEnvC scope cl C X.env) fp) B tg is b)
    (ht : ∀ (s : Shared) (H : Hp) (C : Addr) (cl : List (Str × Addr)) (fp : List Addr), DTs (X.blk s H scope (compEnvC scope cl C X.env) fp) B ifs t)
    (he : ∀ (s : Shared) (H : Hp) (C : Addr) (cl : List (Str × Addr)) (fp : List Addr), DP (X.blk s H scope (compEnvC scope cl C X.env) fp) B .str elt g) (hs : ∀ x, foldedSetIterable iter X.env x = pure x := by intro _; rfl) :
    DP X B m (.ListComp elt [⟨tg, iter, ifs, 0⟩] scope pos) (lcD gs (own.map (·.2)) b t g) :=
  ⟨(pe_lc hc hN hi.pi ok (fun s H C cl fp => (hg s H C cl fp).pg) (fun s H C cl fp => (ht s H C cl fp).pts) (fun s H C cl fp => (he s H C cl fp).pe) hs).imp fun σ H Q ⟨O, ρ, d, gd, e, q⟩ => by
    obtain ⟨es, rfl⟩ := lc_list e
    refine lc_imp his ⟨O, ρ, es, gd, e, fun a us H' s ha ha' r => q _ H' s ?_⟩
    obtain ⟨n1, n2, n3⟩ := gd.fresh ha
    exact rep_fresh (fun z => n1 (gd.mO m a z)) (fun c z => .inl (gd.mO m c z)) ha' r⟩
theorem ds_setLc {i : Nat} {y : Str} {py spos : Pos} (hc : X.calm = true) (hN : X.N.Nodup) (hy : X.N[i]? = some y) (hyl : X.env.scope.names.lookup y = some .local) (hsw : swapsWith (.ListComp elt [⟨tg, iter, ifs, 0⟩] scope pos) (some (.Name y py)) spos.line X.env = pure true)
    (hi : DIC X B tg iter gs) (ok : BlkOk X.N X.env.scope scope own) (his : ∀ i ∈ is, i ∈ own.map (·.2))
    (hg : ∀ (s : Shared) (H : Hp) (C : Addr) (cl : List (Str × Addr)) (fp : List Addr), DG (X.blk s H scope (compEnvC scope cl C X.env) fp) B tg is b)
    (ht : ∀ (s : Shared) (H : Hp) (C : Addr) (cl : List (Str × Addr)) (fp : List Addr), DTs (X.blk s H scope (compEnvC scope cl C X.env) fp) B ifs t)
    (he : ∀ (s : Shared) (H : Hp) (C : Addr) (cl : List (Str × Addr)) (fp : List Addr), DP (X.blk s H scope (compEnvC scope cl C X.env) fp) B .str elt g) (hs : ∀ x, foldedSetIterable iter X.env x = pure x := by intro _; rfl) :
    DS X B (.Assign [.Name y py] (.ListComp elt [⟨tg, iter, ifs, 0⟩] scope pos) spos) (setP i (lcD gs (own.map (·.2)) b t g)) :=
  ⟨(ps_setLc hc hN hy hyl hsw hi.pi ok (fun s H C cl fp => (hg s H C cl fp).pg) (fun s H C cl fp => (ht s H C cl fp).pts) (fun s H C cl fp => (he s H C cl fp).pe) hs).imp fun E σ H ⟨O, ρ, r, gd, e, q⟩ => by
    obtain ⟨d, e1, e2⟩ := bind_some e
    cases e2
    obtain ⟨es, rfl⟩ := lc_list e1
    refine lc_imp his ⟨O, ρ, es, gd, e1, fun a us H' s ha ha' r => ?_⟩
    obtain ⟨n1, n2, n3⟩ := gd.fresh ha
    have rr : Rep O H' (.list es) (.ref a) := rep_fresh n1 (fun c z => .inl z) ha' r
    obtain ⟨g2, w2⟩ := (gd.same s).set (i := i) rr
    exact q _ H' O ⟨.of s, fun _ h => .inl h, fun _ h => h, fun b h => .inl (w2 b h)⟩ g2⟩
theorem ds_ownLc {i : Nat} {y : Str} {py spos : Pos} (hc : X.calm = true) (hN : X.N.Nodup) (hy : X.N[i]? = some y) (hyl : X.env.scope.names.lookup y = some .local) (hsw : swapsWith (.ListComp elt [⟨tg, iter, ifs, 0⟩] scope pos) (some (.Name y py)) spos.line X.env = pure true)
    (hi : DIC X B tg iter gs) (ok : BlkOk X.N X.env.scope scope own) (his : ∀ i ∈ is, i ∈ own.map (·.2))
    (hg : ∀ (s : Shared) (H : Hp) (C : Addr) (cl : List (Str × Addr)) (fp : List Addr), DG (X.blk s H scope (compEnvC scope cl C X.env) fp) B tg is b)
    (ht : ∀ (s : Shared) (H : Hp) (C : Addr) (cl : List (Str × Addr)) (fp : List Addr), DTs (X.blk s H scope (compEnvC scope cl C X.env) fp) B ifs t)
    (he : ∀ (s : Shared) (H : Hp) (C : Addr) (cl : List (Str × Addr)) (fp : List Addr), DP (X.blk s H scope (compEnvC scope cl C X.env) fp) B .str elt g) (hs : ∀ x, foldedSetIterable iter X.env x = pure x := by intro _; rfl) :
    DS X B (.Assign [.Name y py] (.ListComp elt [⟨tg, iter, ifs, 0⟩] scope pos) spos) (setO i (lcD gs (own.map (·.2)) b t g)) :=
  ⟨(ps_setLc hc hN hy hyl hsw hi.pi ok (fun s H C cl fp => (hg s H C cl fp).pg) (fun s H C cl fp => (ht s H C cl fp).pts) (fun s H C cl fp => (he s H C cl fp).pe) hs).imp fun E σ H ⟨O, ρ, r, gd, e, q⟩ => by
    obtain ⟨d, e1, e2⟩ := bind_some e
    obtain ⟨es, rfl⟩ := lc_list e1
    cases e2
    refine lc_imp his ⟨O, ρ, es, gd, e1, fun a us H' s ha ha' r => ?_⟩
    obtain ⟨g2, s2⟩ := gd.setOwn (i := i) s ha ha' r
    exact q _ H' _ s2 g2⟩
end
/-! ## a list of one's own as a source -/
@[simp] def ownI (i : Nat) : Rho → Option (List D) := fun ρ => (ρ[i]?).bind fun t => (ownOf t).bind fun es => if immL es = true then some es else none
section
variable {X : Cx} {B : Base} {m : Md} {tg e : Expr} {g : Rho → Option D} {pos p p' : Pos}
theorem srcC_list {K : PySem.W.Frag} {O : Addr → Prop} {H : Hp} {a : Addr} {vs : List V} {ds : List D} (ha : H a = some (.lst vs)) (r : RepL O H ds vs) (hi : immL ds = true) : SrcC O H (Itl K a) ds := by
  intro O' H' s out t
  have hl := r.length
  have ha' := s a _ ha
  refine ⟨fun i hi => ⟨vs, vs[i], .of ha', by simp [← hl, hi]⟩, ⟨vs, .of ha', by rw [hl]; exact Nat.le_refl _⟩, fun i x H2 hi' y => ?_⟩
  obtain ⟨e, y⟩ := y
  subst e
  obtain ⟨d, e1, r1⟩ := (RepL.imm (O' := O') hi (r.same s)).getV (y vs (.of ha'))
  exact ⟨d, e1, Same.refl _, r1⟩
theorem dic_own {i : Nat} {x : Str} (hN : X.N[i]? = some x) (hv : Vis X.env.scope x := by first | exact Or.inl rfl | exact Or.inr (Or.inl rfl) | exact Or.inr (Or.inr rfl)) (hd : (x == ("__debug__" : Str)) = false := by decide)
    (hcd : (x == ("__classdict__" : Str)) = false := by decide) : DIC X B tg (.Name x pos) (ownI i) := ⟨(pi_list (pv i hN hv hd hcd)).imp fun σ H R ⟨O, ρ, ds, gd, e, q⟩ => by
  obtain ⟨t, e1, e2⟩ := bind_some e
  obtain ⟨es, e3, e4⟩ := bind_some e2
  split at e4
  · next hi =>
    cases e4
    obtain ⟨a, vs, h1, h2, h3, h4⟩ := gd.ownAt e1 e3
    exact ⟨_, h1, a, rfl, ⟨vs, .of h3⟩, q _ H (Same.refl H) (srcC_list h3 h4 hi)⟩
  · cases e4⟩
end
/-! ## fresh lists -/
@[simp] def freS : Sl → Sl
  | .dat d => if imm d = true then .dat d else .nil
  | .own ds => if immL ds = true then .own ds else .nil
  | .bag ds => if immL ds = true then .bag ds else .nil
  | .raw v => .raw v
  | .nil => .nil
@[simp] def freR (ρ : Rho) : Rho := ρ.map freS
@[simp] def immLi : D → Option D
  | .list ds => if immL ds = true then some (.list ds) else none
  | _ => none
@[simp] def freD (g : Rho → Option D) : Rho → Option D := fun ρ => (g (freR ρ)).bind immLi
structure DF (X : Cx) (B : Base) (e : Expr) (g : Rho → Option D) : Prop where
  pe : PE X e (fun σ H Q => ∃ O ρ ds, Good B O σ H ρ ∧ g ρ = some (.list ds) ∧ ∀ a us H', Same H H' → H a = none → H' a = some (.lst us) → RepL (fun b => O b ∨ b = a) H' ds us → Q (.ref a) H')
theorem Good.fre {B : Base} {O : Addr → Prop} {σ : St} {H : Hp} {ρ : Rho} (g : Good B O σ H ρ) : Good B (fun b => H b ≠ Option.none) σ H (freR ρ) := by
  have hw : ∀ (j : Nat) s, (freR ρ)[j]? = some s → ∃ t, ρ[j]? = some t ∧ freS t = s := fun j s e => by
    unfold freR at e
    rw [List.getElem?_map] at e
    cases h : ρ[j]? with
    | none => rw [h] at e; cases e
    | some t => rw [h] at e; cases e; exact ⟨t, rfl, rfl⟩
  have ho : ∀ t, isOwn (freS t) = true → isOwn t = true := fun t q => by
    cases t with
    | nil => cases q
    | dat d =>
      simp only [freS] at q
      by_cases h : imm d = true
      · rw [if_pos h] at q; cases q
      · rw [if_neg h] at q; cases q
    | own ds => rfl
    | bag ds => rfl
    | raw v => cases q
  refine ⟨by simp [g.len], g.frame, g.o0, g.r0, fun b h => g.otrk b (g.osub b h), fun b h => h, g.h0, fun j s e => ?_, fun j k s u b e1 e2 q1 q2 e3 e4 => ?_⟩
  · obtain ⟨t, e1, rfl⟩ := hw j s e
    have k := g.slots j t e1
    cases t with
    | nil => trivial
    | raw v => exact k
    | dat d =>
      simp only [freS]
      by_cases hi : imm d = true
      · rw [if_pos hi]
        obtain ⟨v, h1, r⟩ := k
        exact ⟨v, h1, r.imm hi⟩
      · rw [if_neg hi]; trivial
    | own ds =>
      simp only [freS]
      by_cases hi : immL ds = true
      · rw [if_pos hi]
        obtain ⟨a, vs, h1, h2, h3, h4, h5, r⟩ := k
        exact ⟨a, vs, h1, some_ne h5, h3, h4, h5, r.imm hi⟩
      · rw [if_neg hi]; trivial
    | bag ds =>
      simp only [freS]
      by_cases hi : immL ds = true
      · rw [if_pos hi]
        obtain ⟨a, vs, h1, h2, h3, h5, r⟩ := k
        exact ⟨a, vs, h1, h2, some_ne h5, h5, r.imm hi⟩
      · rw [if_neg hi]; trivial
  · obtain ⟨t1, f1, rfl⟩ := hw j s e1
    obtain ⟨t2, f2, rfl⟩ := hw k u e2
    exact g.sep j k t1 t2 b f1 f2 (ho _ q1) (ho _ q2) e3 e4
section
variable {X : Cx} {B : Base} {e : Expr} {es : List Expr} {g : Rho → Option D} {gs : Rho → Option (List D)} {pos p' : Pos}
theorem df_of (h : DP X B .str e g) : DF X B e (freD g) := ⟨h.pe.imp fun σ H Q ⟨O, ρ, ds, gd, e, q⟩ => by
  obtain ⟨d, e1, e2⟩ := bind_some e
  unfold immLi at e2
  split at e2
  · split at e2
    · next hi =>
      cases e2
      refine ⟨_, _, _, gd.fre, e1, fun v H' s r => ?_⟩
      simp only [Md.O, Rep] at r
      obtain ⟨a, us, rfl, no, ha, r⟩ := r
      have hn : H a = none := by
        cases h : H a with
        | none => rfl
        | some o => exact absurd (some_ne h) no
      exact q a us H' s hn ha (r.imm hi)
    · cases e2
  · cases e2⟩
theorem df_lst (ha : DPA X B .str es gs) : DF X B (.List es pos) (nD gs lstD) := ⟨(pe_lst ha.pa).imp fun σ H Q ⟨O, ρ, ds, gd, e, q⟩ => by
  obtain ⟨ds', e1, e2⟩ := bind_some e
  unfold lstD at e2
  split at e2
  · next hl =>
    cases e2
    refine ⟨O, ρ, _, gd, e1, fun vs H1 s1 r1 => ⟨line_le (by rw [← r1.length]; exact hl), fun p hp => ?_⟩⟩
    refine q p vs _ (s1.trans (same_upd hp)) (s1.free hp) upd_same (rep_upd hp (RepL.mv (.fresh hp) _ _ r1))
  · cases e2⟩
theorem ds_own {i : Nat} {x : Str} (hN : X.N.Nodup) (hi : X.N[i]? = some x) (hx : Loc X.env.scope x) (he : DF X B e g) (hs : swapsWith e (some (.Name x p')) pos.line X.env = pure false := by rfl) (hf : X.fn x = true ∨ X.env.scope.names.lookup x = some .local := by first | exact .inl rfl | exact .inr rfl | assumption) :
    DS X B (.Assign [.Name x p'] e pos) (setO i g) := ⟨(ps_set hN hi hx he.pe hs hf).imp fun E σ H ⟨O, ρ, r, gd, e, q⟩ => by
  obtain ⟨d, e1, e2⟩ := bind_some e
  cases d with
  | list ds =>
    cases e2
    refine ⟨O, ρ, ds, gd, e1, fun a us H' s ha ha' r => ?_⟩
    obtain ⟨g2, s2⟩ := gd.setOwn (i := i) s ha ha' r
    exact q _ H' _ s2 g2
  | _ => cases e2⟩
end
/-! ## a def at depth none -/
theorem fn_zero {P : Program} {w : World} {K : PySem.W.Frag} {mg : Str → Option Value} {base : Heap} {x : Str} {st : Stmt} {f : Addr} {fd : FuncData} {N ps : List Str} (F : L2.Fun K x x st f fd) (S : FnScope N ps (defScope st)) (bi : Binds K fd ps []) (hm : mg x = some (.ref f)) :
    Fn P w K mg base 1 x (fun _ => none) :=
  ⟨f, fd, ps, F.ok (k := 0) (N := N) (sp := spP fun _ => none) S (fun vs H Q E h => by obtain ⟨O, ds, d, t, r, e, q⟩ := h; cases e) (fun cdv A outer s H vs Q E hr h => by obtain ⟨O, ds, d, t, r, e, q⟩ := h; cases e), hm, F.kp, bi⟩
end DL

namespace DL
open PySem PySem.Spec
open PyProof.Rows hiding St
open L2
/-! ## slices -/
def cutD (xs : List D) (lo hi : Option Int) : List D := (xs.drop (HT.sIx xs.length 0 lo)).take (HT.sIx xs.length xs.length hi - HT.sIx xs.length 0 lo)
structure DPO (X : Cx) (B : Base) (m : Md) (e : Option Expr) (g : Rho → Option (Option Int)) : Prop where
  po : PO X e (fun σ H Q => ∃ O ρ o, Good B O σ H ρ ∧ g ρ = some o ∧ ∀ H', Same H H' → Q o H')
@[simp] def noO : Rho → Option (Option Int) := fun _ => some none
@[simp] def soO (g : Rho → Option D) : Rho → Option (Option Int) := fun ρ => (g ρ).bind fun d => (asInt d).bind fun i => some (some i)
@[simp] def slcD : D → Option Int → Option Int → Option D
  | .list xs, lo, hi => some (.list (cutD xs lo hi))
  | .tuple xs, lo, hi => some (.tuple (cutD xs lo hi))
  | _, _, _ => none
@[simp] def slD (g : Rho → Option D) (gl gh : Rho → Option (Option Int)) : Rho → Option D := fun ρ => (g ρ).bind fun d => (gl ρ).bind fun lo => (gh ρ).bind fun hi => slcD d lo hi
@[simp] def revD : D → Option D
  | .list xs => some (.list xs.reverse)
  | _ => none
theorem asInt_some {d : D} {i : Int} (h : asInt d = some i) : d = .int i := by
  unfold asInt at h
  split at h
  · cases h; rfl
  · cases h
theorem cut_rep {O : Addr → Prop} {H : Hp} {xs : List D} {vs : List V} {lo hi : Option Int} (r : RepL O H xs vs) : RepL O H (cutD xs lo hi) (cutV vs lo hi) := by
  unfold cutD cutV
  rw [r.length]
  exact (r.drop _).take _
theorem _root_.L2.PO.imp {X : Cx} {e : Option Expr} {t t' : TO} (h : PO X e t) (i : ∀ σ H Q, t' σ H Q → t σ H Q) : PO X e t' := ⟨fun pins s σ H Q I q => h.run pins s σ H Q I (i σ H Q q)⟩
section
variable {X : Cx} {B : Base} {m : Md} {e : Expr} {lo hi : Option Expr} {g : Rho → Option D} {gl gh : Rho → Option (Option Int)} {pos p2 : Pos}
theorem do_none : DPO X B m none noO := ⟨po_none.imp fun σ H Q ⟨O, ρ, o, gd, e, q⟩ => by
  cases e
  exact q H (Same.refl H)⟩
theorem do_some (h : DP X B m e g) : DPO X B m (some e) (soO g) := ⟨(po_some h.pe).imp fun σ H Q ⟨O, ρ, o, gd, e, q⟩ => by
  obtain ⟨d, e1, e2⟩ := bind_some e
  obtain ⟨i, e3, e4⟩ := bind_some e2
  cases asInt_some e3
  cases e4
  exact ⟨O, ρ, _, gd, e1, fun v H1 s1 r1 => ⟨i, rep_int.mp r1, q H1 s1⟩⟩⟩
theorem dp_slice (he : DP X B m e g) (hl : DPO X B m lo gl) (hh : DPO X B m hi gh) : DP X B m (.Subscript e (.Slice lo hi none p2) pos) (slD g gl gh) :=
  ⟨(pe_slice (sl_list.or sl_tupA) he.pe hl.po hh.po).imp fun σ H Q ⟨O, ρ, d, gd, e, q⟩ => by
    obtain ⟨x, e1, e'⟩ := bind_some e
    obtain ⟨l, e2, e''⟩ := bind_some e'
    obtain ⟨h, e3, e4⟩ := bind_some e''
    refine ⟨O, ρ, x, gd, e1, fun v H1 s1 r1 => ⟨O, ρ, l, gd.same s1, e2, fun H2 s2 => ⟨O, ρ, h, gd.same (s1.trans s2), e3, fun H3 s3 => ?_⟩⟩⟩
    have s13 := (s1.trans s2).trans s3
    have r3 := (r1.same s2).same s3
    unfold slcD at e4
    split at e4
    · cases e4
      simp only [Rep] at r3
      obtain ⟨a, vs, rfl, no, ha, r⟩ := r3
      exact .inl ⟨a, vs, rfl, .of ha, fun p hp => q _ _ (s13.trans (same_upd hp)) (rep_lst ((gd.same s13).otr m) hp (cut_rep r))⟩
    · cases e4
      simp only [Rep] at r3
      obtain ⟨a, vs, rfl, ha, r⟩ := r3
      refine .inr ⟨a, vs, rfl, .of ha, fun hw => ?_, fun _ p hp => q _ _ (s13.trans (same_upd hp)) (rep_tup hp (cut_rep r))⟩
      refine q _ H3 s13 ?_
      have hc : cutV vs l h = vs := by
        unfold cutV
        rw [hw.1, hw.2]
        simp
      have := cut_rep (lo := l) (hi := h) r
      rw [hc] at this
      simp only [Rep]
      exact ⟨a, vs, rfl, ha, this⟩
    · cases e4⟩
theorem dp_rev {k : Nat} {p1 p3 p4 : Pos} (he : DP X B m e g) : DP X B m (.Subscript e (.Slice none none (some (.UnaryOp .USub (.Constant (.int 1) k p1) p4)) p3) pos) (b1D g revD) :=
  ⟨(pe_revL he.pe).imp fun σ H Q ⟨O, ρ, d, gd, e, q⟩ => by
    obtain ⟨x, e1, e2⟩ := bind_some e
    refine ⟨O, ρ, x, gd, e1, fun v H1 s1 r1 => ?_⟩
    unfold revD at e2
    split at e2
    · cases e2
      simp only [Rep] at r1
      obtain ⟨a, vs, rfl, no, ha, r⟩ := r1
      exact ⟨a, vs, rfl, .of ha, fun p hp => q _ _ (s1.trans (same_upd hp)) (rep_lst ((gd.same s1).otr m) hp r.reverse)⟩
    · cases e2⟩
end
/-! ## lists of ints and of bools -/
@[simp] def boolsOf : List D → Option (List Bool)
  | [] => some []
  | .bool b :: ds => (boolsOf ds).bind fun bs => some (b :: bs)
  | _ :: _ => none
@[simp] def intsOf : List D → Option (List Int)
  | [] => some []
  | .int b :: ds => (intsOf ds).bind fun bs => some (b :: bs)
  | _ :: _ => none
theorem bools_rep {O : Addr → Prop} {H : Hp} : ∀ {ds : List D} {vs : List V} {bs : List Bool}, RepL O H ds vs → boolsOf ds = some bs → vs = bs.map V.bl
  | [], vs, bs, r, h => by simp only [boolsOf] at h; cases h; simp only [RepL] at r; subst r; rfl
  | d :: ds, vs, bs, r, h => by
    simp only [RepL] at r
    obtain ⟨v, us, rfl, r1, r2⟩ := r
    unfold boolsOf at h
    split at h
    · cases (by assumption : d :: ds = _)
    · next q =>
      cases q
      obtain ⟨cs, h1, h2⟩ := bind_some h
      cases h2
      rw [rep_bool.mp r1, bools_rep r2 h1]
      rfl
    · cases h
theorem ints_rep {O : Addr → Prop} {H : Hp} : ∀ {ds : List D} {vs : List V} {bs : List Int}, RepL O H ds vs → intsOf ds = some bs → vs = bs.map V.int
  | [], vs, bs, r, h => by simp only [intsOf] at h; cases h; simp only [RepL] at r; subst r; rfl
  | d :: ds, vs, bs, r, h => by
    simp only [RepL] at r
    obtain ⟨v, us, rfl, r1, r2⟩ := r
    unfold intsOf at h
    split at h
    · cases (by assumption : d :: ds = _)
    · next q =>
      cases q
      obtain ⟨cs, h1, h2⟩ := bind_some h
      cases h2
      rw [rep_int.mp r1, ints_rep r2 h1]
      rfl
    · cases h
theorem rep_intsD {O : Addr → Prop} {H : Hp} : ∀ ns : List Int, RepL O H (intsD ns) (ns.map V.int)
  | [] => .nil
  | n :: ns => .cons (rep_int.mpr rfl) (rep_intsD ns)
@[simp] theorem intsOf_intsD : ∀ ns : List Int, intsOf (intsD ns) = some ns
  | [] => rfl
  | n :: ns => by
    show ((intsOf (intsD ns)).bind fun bs => some (n :: bs)) = _
    rw [intsOf_intsD ns]; rfl
/-! ### the greatest and the least -/
def maxL : Int → List Int → Int
  | m, [] => m
  | m, n :: ns => maxL (if m < n then n else m) ns
def minL : Int → List Int → Int
  | m, [] => m
  | m, n :: ns => minL (if n < m then n else m) ns
theorem maxL_ge : ∀ (ns : List Int) (m : Int), m ≤ maxL m ns ∧ ∀ y ∈ ns, y ≤ maxL m ns
  | [], m => ⟨Int.le_refl _, fun y h => by cases h⟩
  | n :: ns, m => by
    obtain ⟨h1, h2⟩ := maxL_ge ns (if m < n then n else m)
    unfold maxL
    refine ⟨?_, fun y h => ?_⟩
    · split at h1 <;> rename_i hlt
      · rw [if_pos hlt]; omega
      · rw [if_neg hlt]; omega
    · rcases List.mem_cons.mp h with rfl | h
      · split at h1 <;> rename_i hlt
        · rw [if_pos hlt]; omega
        · rw [if_neg hlt]; omega
      · exact h2 y h
theorem maxL_mem : ∀ (ns : List Int) (m : Int), maxL m ns = m ∨ maxL m ns ∈ ns
  | [], m => .inl rfl
  | n :: ns, m => by
    unfold maxL
    by_cases h : m < n
    · rw [if_pos h]
      rcases maxL_mem ns n with e | e
      · exact .inr (by rw [e]; simp)
      · exact .inr (by simp [e])
    · rw [if_neg h]
      rcases maxL_mem ns m with e | e
      · exact .inl e
      · exact .inr (by simp [e])
theorem minL_le : ∀ (ns : List Int) (m : Int), minL m ns ≤ m ∧ ∀ y ∈ ns, minL m ns ≤ y
  | [], m => ⟨Int.le_refl _, fun y h => by cases h⟩
  | n :: ns, m => by
    obtain ⟨h1, h2⟩ := minL_le ns (if n < m then n else m)
    unfold minL
    refine ⟨?_, fun y h => ?_⟩
    · split at h1 <;> rename_i hlt
      · rw [if_pos hlt]; omega
      · rw [if_neg hlt]; omega
    · rcases List.mem_cons.mp h with rfl | h
      · split at h1 <;> rename_i hlt
        · rw [if_pos hlt]; omega
        · rw [if_neg hlt]; omega
      · exact h2 y h
theorem minL_mem : ∀ (ns : List Int) (m : Int), minL m ns = m ∨ minL m ns ∈ ns
  | [], m => .inl rfl
  | n :: ns, m => by
    unfold minL
    by_cases h : n < m
    · rw [if_pos h]
      rcases minL_mem ns n with e | e
      · exact .inr (by rw [e]; simp)
      · exact .inr (by simp [e])
    · rw [if_neg h]
      rcases minL_mem ns m with e | e
      · exact .inl e
      · exact .inr (by simp [e])
/-! ### sorted ints -/
def insI (x : Int) : List Int → List Int
  | [] => [x]
  | y :: ys => if x ≤ y then x :: y :: ys else y :: insI x ys
def sortI : List Int → List Int
  | [] => []
  | x :: xs => insI x (sortI xs)
theorem insI_perm (x : Int) : ∀ ys : List Int, (insI x ys).Perm (x :: ys)
  | [] => .refl _
  | y :: ys => by
    unfold insI
    split
    · exact .refl _
    · exact ((insI_perm x ys).cons y).trans (.swap x y ys)
theorem sortI_perm : ∀ xs : List Int, (sortI xs).Perm xs
  | [] => .refl _
  | x :: xs => (insI_perm x _).trans ((sortI_perm xs).cons x)
theorem insI_sorted (x : Int) : ∀ ys : List Int, ys.Pairwise (· ≤ ·) → (insI x ys).Pairwise (· ≤ ·)
  | [], _ => by simp [insI]
  | y :: ys, h => by
    rw [List.pairwise_cons] at h
    unfold insI
    split
    · next hxy =>
      rw [List.pairwise_cons]
      refine ⟨fun z hz => ?_, List.pairwise_cons.mpr h⟩
      rcases List.mem_cons.mp hz with rfl | hz
      · exact hxy
      · have := h.1 z hz; omega
    · next hxy =>
      rw [List.pairwise_cons]
      refine ⟨fun z hz => ?_, insI_sorted x ys h.2⟩
      rcases List.mem_cons.mp ((insI_perm x ys).mem_iff.mp hz) with rfl | hz
      · omega
      · exact h.1 z hz
theorem sortI_sorted : ∀ xs : List Int, (sortI xs).Pairwise (· ≤ ·)
  | [] => .nil
  | x :: xs => insI_sorted x _ (sortI_sorted xs)
theorem sorted_uniq : ∀ {xs ys : List Int}, xs.Perm ys → xs.Pairwise (· ≤ ·) → ys.Pairwise (· ≤ ·) → xs = ys
  | [], ys, p, _, _ => by rw [List.nil_perm] at p; exact p.symm
  | x :: xs, [], p, _, _ => by have := p.length_eq; simp at this
  | x :: xs, y :: ys, p, h1, h2 => by
    rw [List.pairwise_cons] at h1 h2
    have hx : x ∈ y :: ys := p.mem_iff.mp (by simp)
    have hy : y ∈ x :: xs := p.mem_iff.mpr (by simp)
    have e : x = y := by
      rcases List.mem_cons.mp hx with e | hx
      · exact e
      · rcases List.mem_cons.mp hy with e | hy
        · exact e.symm
        · have := h1.1 y hy
          have := h2.1 x hx
          omega
    subst e
    rw [sorted_uniq ((List.perm_cons x).mp p) h1.2 h2.2]
/-! ### the functions -/
@[simp] def allD : List D → Option D
  | [.list ds] => (boolsOf ds).bind fun bs => some (.bool (bs.all id))
  | _ => none
@[simp] def anyD : List D → Option D
  | [.list ds] => (boolsOf ds).bind fun bs => some (.bool (bs.any id))
  | _ => none
@[simp] def sumD : List D → Option D
  | [.list ds] => (intsOf ds).bind fun bs => some (.int bs.sum)
  | _ => none
@[simp] def maxD : List D → Option D
  | [.list ds] => (intsOf ds).bind fun bs => match bs with
    | [] => none
    | n :: ns => some (.int (maxL n ns))
  | _ => none
@[simp] def minD : List D → Option D
  | [.list ds] => (intsOf ds).bind fun bs => match bs with
    | [] => none
    | n :: ns => some (.int (minL n ns))
  | _ => none
@[simp] def sortedD : List D → Option D
  | [.list ds] => (intsOf ds).bind fun bs => some (.list (intsD (sortI bs)))
  | _ => none
@[simp] def listD : List D → Option D
  | [.list ds] => some (.list ds)
  | [.tuple ds] => some (.list ds)
  | _ => none
@[simp] def tupleD : List D → Option D
  | [.list ds] => some (.tuple ds)
  | [.tuple ds] => some (.tuple ds)
  | _ => none
@[simp] def intD : List D → Option D
  | [.int i] => some (.int i)
  | [.bool b] => some (.int (if b then 1 else 0))
  | _ => none
section
variable {K : PySem.W.Frag}
theorem n_all : OpN (rAll K) allD := by
  intro O H ds z xs Q t hf rx q
  unfold allD at hf
  split at hf
  · obtain ⟨bs, e1, e2⟩ := bind_some hf
    cases e2
    obtain ⟨v, rfl, r⟩ := repL_one rx
    simp only [Rep] at r
    obtain ⟨a, vs, rfl, _, ha, r⟩ := r
    cases bools_rep r e1
    exact ⟨a, bs, rfl, .of ha, q _ H (Same.refl H) (rep_bool.mpr rfl)⟩
  · cases hf
theorem n_any : OpN (rAny K) anyD := by
  intro O H ds z xs Q t hf rx q
  unfold anyD at hf
  split at hf
  · obtain ⟨bs, e1, e2⟩ := bind_some hf
    cases e2
    obtain ⟨v, rfl, r⟩ := repL_one rx
    simp only [Rep] at r
    obtain ⟨a, vs, rfl, _, ha, r⟩ := r
    cases bools_rep r e1
    exact ⟨a, bs, rfl, .of ha, q _ H (Same.refl H) (rep_bool.mpr rfl)⟩
  · cases hf
theorem n_sum : OpN (rSum K) sumD := by
  intro O H ds z xs Q t hf rx q
  unfold sumD at hf
  split at hf
  · obtain ⟨bs, e1, e2⟩ := bind_some hf
    cases e2
    obtain ⟨v, rfl, r⟩ := repL_one rx
    simp only [Rep] at r
    obtain ⟨a, vs, rfl, _, ha, r⟩ := r
    cases ints_rep r e1
    exact ⟨a, bs, rfl, .of ha, q _ H (Same.refl H) (rep_int.mpr rfl)⟩
  · cases hf
theorem n_max : OpN (rMax K) maxD := by
  intro O H ds z xs Q t hf rx q
  unfold maxD at hf
  split at hf
  · obtain ⟨bs, e1, e2⟩ := bind_some hf
    obtain ⟨v, rfl, r⟩ := repL_one rx
    simp only [Rep] at r
    obtain ⟨a, vs, rfl, _, ha, r⟩ := r
    cases ints_rep r e1
    cases bs with
    | nil => cases e2
    | cons n ns =>
      cases e2
      refine ⟨a, n :: ns, rfl, .of ha, by simp, fun m hm hge => q _ H (Same.refl H) (rep_int.mpr ?_)⟩
      have h1 := maxL_ge ns n
      have h2 : maxL n ns ≤ m := by
        rcases maxL_mem ns n with e | e
        · rw [e]; exact hge n (by simp)
        · exact hge _ (by simp [e])
      have h3 : m ≤ maxL n ns := by
        rcases List.mem_cons.mp hm with rfl | hm
        · exact h1.1
        · exact h1.2 m hm
      rw [show m = maxL n ns by omega]
  · cases hf
theorem n_min : OpN (rMin K) minD := by
  intro O H ds z xs Q t hf rx q
  unfold minD at hf
  split at hf
  · obtain ⟨bs, e1, e2⟩ := bind_some hf
    obtain ⟨v, rfl, r⟩ := repL_one rx
    simp only [Rep] at r
    obtain ⟨a, vs, rfl, _, ha, r⟩ := r
    cases ints_rep r e1
    cases bs with
    | nil => cases e2
    | cons n ns =>
      cases e2
      refine ⟨a, n :: ns, rfl, .of ha, by simp, fun m hm hge => q _ H (Same.refl H) (rep_int.mpr ?_)⟩
      have h1 := minL_le ns n
      have h2 : m ≤ minL n ns := by
        rcases minL_mem ns n with e | e
        · rw [e]; exact hge n (by simp)
        · exact hge _ (by simp [e])
      have h3 : minL n ns ≤ m := by
        rcases List.mem_cons.mp hm with rfl | hm
        · exact h1.1
        · exact h1.2 m hm
      rw [show m = minL n ns by omega]
  · cases hf
theorem n_sorted : OpN (rSortedI K) sortedD := by
  intro O H ds z xs Q t hf rx q
  unfold sortedD at hf
  split at hf
  · obtain ⟨bs, e1, e2⟩ := bind_some hf
    cases e2
    obtain ⟨v, rfl, r⟩ := repL_one rx
    simp only [Rep] at r
    obtain ⟨a, vs, rfl, _, ha, r⟩ := r
    cases ints_rep r e1
    refine ⟨a, bs, rfl, .of ha, fun ns' p hp hs hn => ?_⟩
    have : ns' = sortI bs := sorted_uniq (hp.trans (sortI_perm bs).symm) hs (sortI_sorted bs)
    subst this
    exact q _ _ (same_upd hn) (rep_lst t hn (rep_intsD _))
  · cases hf
theorem n_list : OpN (fun xs H Q => ∃ p ys, xs = [.ref p] ∧ (SqL K H p ys ∨ SqT K H p ys) ∧ ∀ l, H l = none → Q (.ref l) (upd H l (.lst ys))) listD := by
  intro O H ds z xs Q t hf rx q
  unfold listD at hf
  split at hf
  · cases hf
    obtain ⟨v, rfl, r⟩ := repL_one rx
    simp only [Rep] at r
    obtain ⟨a, vs, rfl, _, ha, r⟩ := r
    exact ⟨a, vs, rfl, .inl (.of ha), fun l hl => q _ _ (same_upd hl) (rep_lst t hl r)⟩
  · cases hf
    obtain ⟨v, rfl, r⟩ := repL_one rx
    simp only [Rep] at r
    obtain ⟨a, vs, rfl, ha, r⟩ := r
    exact ⟨a, vs, rfl, .inr (.of ha), fun l hl => q _ _ (same_upd hl) (rep_lst t hl r)⟩
  · cases hf
theorem n_tuple : OpN (fun xs H Q => ∃ p ys, xs = [.ref p] ∧ ((SqL K H p ys ∧ ∀ l, H l = none → Q (.ref l) (upd H l (.tup ys))) ∨ (SqT K H p ys ∧ Q (.ref p) H))) tupleD := by
  intro O H ds z xs Q t hf rx q
  unfold tupleD at hf
  split at hf
  · cases hf
    obtain ⟨v, rfl, r⟩ := repL_one rx
    simp only [Rep] at r
    obtain ⟨a, vs, rfl, _, ha, r⟩ := r
    exact ⟨a, vs, rfl, .inl ⟨.of ha, fun l hl => q _ _ (same_upd hl) (rep_tup hl r)⟩⟩
  · cases hf
    obtain ⟨v, rfl, r⟩ := repL_one rx
    have r' := r
    simp only [Rep] at r
    obtain ⟨a, vs, rfl, ha, r⟩ := r
    exact ⟨a, vs, rfl, .inr ⟨.of ha, q _ H (Same.refl H) r'⟩⟩
  · cases hf
theorem n_int : OpN (fun xs H Q => (∃ i, xs = [.int i] ∧ Q (.int i) H) ∨ ∃ k, xs = [.bl k] ∧ Q (.int (if k then 1 else 0)) H) intD := by
  intro O H ds z xs Q t hf rx q
  unfold intD at hf
  split at hf
  · cases hf
    obtain ⟨v, rfl, r⟩ := repL_one rx
    rw [rep_int.mp r]
    exact .inl ⟨_, rfl, q _ H (Same.refl H) (rep_int.mpr rfl)⟩
  · cases hf
    obtain ⟨v, rfl, r⟩ := repL_one rx
    rw [rep_bool.mp r]
    exact .inr ⟨_, rfl, q _ H (Same.refl H) (rep_int.mpr rfl)⟩
  · cases hf
end
/-! ### in -/
@[simp] def inD : D → D → Option D
  | d, .list ds => if SeqAt.shaped d = true ∧ SeqAt.shaped (.list ds) = true then some (.bool (ds.any fun z => PyData.eqv z d)) else none
  | _, _ => none
@[simp] def notInD : D → D → Option D
  | d, .list ds => if SeqAt.shaped d = true ∧ SeqAt.shaped (.list ds) = true then some (.bool (!ds.any fun z => PyData.eqv z d)) else none
  | _, _ => none
theorem o_in {K : PySem.W.Frag} : Op2 (rInD K) inD := by
  intro O H d e z x y Q t hf rx ry q
  unfold inD at hf
  split at hf
  · split at hf
    · next hs => cases hf; exact ⟨_, _, rx.dp, ry.dp, hs.1, hs.2, q _ H (Same.refl H) (rep_bool.mpr rfl)⟩
    · cases hf
  · cases hf
theorem o_notIn {K : PySem.W.Frag} : Op2 (rNotInD K) notInD := by
  intro O H d e z x y Q t hf rx ry q
  unfold notInD at hf
  split at hf
  · split at hf
    · next hs => cases hf; exact ⟨_, _, rx.dp, ry.dp, hs.1, hs.2, q _ H (Same.refl H) (rep_bool.mpr rfl)⟩
    · cases hf
  · cases hf
end DL

namespace DL
open PySem PySem.Spec
open PyProof.Rows hiding St
open L2
/-! ## shapes and equality -/
def Shp (k : Nat) (d : D) : Prop := d.canLay0 = true ∧ d.depth ≤ k
theorem Shp.ok {k : Nat} {d : D} (h : Shp k d) (hk : k ≤ 64) : SeqAt.shaped d = true := by
  unfold SeqAt.shaped
  rw [h.1, Bool.true_and, decide_eq_true_eq]
  exact Nat.le_trans h.2 hk
theorem Shp.mono {k j : Nat} {d : D} (h : Shp k d) (hk : k ≤ j) : Shp j d := ⟨h.1, Nat.le_trans h.2 hk⟩
theorem shp_int (i : Int) : Shp 0 (.int i) := ⟨by simp [PyData.canLay0], by simp [PyData.depth]⟩
theorem shp_bool (i : Bool) : Shp 0 (.bool i) := ⟨by simp [PyData.canLay0], by simp [PyData.depth]⟩
theorem shp_none : Shp 0 .none := ⟨by simp [PyData.canLay0], by simp [PyData.depth]⟩
theorem shp_str {x : Str} (h : PyData.strOk x = true) : Shp 0 (.str x) := ⟨by simp [PyData.canLay0, h], by simp [PyData.depth]⟩
theorem shp_all {k : Nat} : ∀ {ds : List D}, (∀ d ∈ ds, Shp k d) → PyData.canLayAll0 ds = true ∧ PyData.depthAll ds ≤ k
  | [], h => ⟨by simp [PyData.canLayAll0], by simp [PyData.depthAll]⟩
  | d :: ds, h => by
    obtain ⟨h1, h2⟩ := h d (by simp)
    obtain ⟨h3, h4⟩ := shp_all (ds := ds) (fun e he => h e (by simp [he]))
    refine ⟨by rw [PyData.canLayAll0, h1, h3]; rfl, ?_⟩
    rw [PyData.depthAll]
    omega
theorem shp_list {k : Nat} {ds : List D} (h : ∀ d ∈ ds, Shp k d) : Shp (k + 1) (.list ds) := by
  obtain ⟨h1, h2⟩ := shp_all h
  exact ⟨by rw [PyData.canLay0]; exact h1, by rw [PyData.depth]; omega⟩
theorem shp_tup {k : Nat} {ds : List D} (h : ∀ d ∈ ds, Shp k d) : Shp (k + 1) (.tuple ds) := by
  obtain ⟨h1, h2⟩ := shp_all h
  exact ⟨by rw [PyData.canLay0]; exact h1, by rw [PyData.depth]; omega⟩
theorem shp_ints (ns : List Int) : ∀ d ∈ intsD ns, Shp 0 d := fun d hd => by
  obtain ⟨n, _, rfl⟩ := List.mem_map.mp hd
  exact shp_int n
@[simp] theorem shaped_ints (ns : List Int) : SeqAt.shaped (.list (intsD ns)) = true := (shp_list (shp_ints ns)).ok (by decide)
@[simp] theorem shaped_intsT (ns : List Int) : SeqAt.shaped (.tuple (intsD ns)) = true := (shp_tup (shp_ints ns)).ok (by decide)
@[simp] theorem shaped_nil : SeqAt.shaped (.list []) = true := shaped_ints []
@[simp] theorem shaped_nilT : SeqAt.shaped (.tuple []) = true := shaped_intsT []
@[simp] theorem eqv_list (xs ys : List D) : PyData.eqv (.list xs) (.list ys) = PyData.eqvAll xs ys := by rw [PyData.eqv]
@[simp] theorem eqv_tup (xs ys : List D) : PyData.eqv (.tuple xs) (.tuple ys) = PyData.eqvAll xs ys := by rw [PyData.eqv]
@[simp] theorem eqv_bool (i j : Bool) : PyData.eqv (.bool i) (.bool j) = (i == j) := by rw [PyData.eqv]
@[simp] theorem eqv_str (i j : Str) : PyData.eqv (.str i) (.str j) = (i == j) := by rw [PyData.eqv]
@[simp] theorem eqvAll_nil : PyData.eqvAll [] [] = true := by rw [PyData.eqvAll]
@[simp] theorem eqvAll_cons (x y : D) (xs ys : List D) : PyData.eqvAll (x :: xs) (y :: ys) = (PyData.eqv x y && PyData.eqvAll xs ys) := by rw [PyData.eqvAll]
@[simp] theorem eqvAll_l (x : D) (xs : List D) : PyData.eqvAll (x :: xs) [] = false := by rw [PyData.eqvAll]
@[simp] theorem eqvAll_r (x : D) (xs : List D) : PyData.eqvAll [] (x :: xs) = false := by rw [PyData.eqvAll]
theorem eqvAll_nil_iff (xs : List D) : PyData.eqvAll xs [] = xs.isEmpty := by
  cases xs <;> simp
theorem eqvAll_ints : ∀ (xs ys : List Int), PyData.eqvAll (intsD xs) (intsD ys) = decide (xs = ys)
  | [], [] => by simp [intsD]
  | [], y :: ys => by simp [intsD]
  | x :: xs, [] => by simp [intsD]
  | x :: xs, y :: ys => by
    have := eqvAll_ints xs ys
    simp only [intsD, List.map_cons, eqvAll_cons, eqv_int] at this ⊢
    rw [this]
    by_cases h : x = y
    · subst h; simp
    · simp [h]
theorem eqvAll_refl : ∀ {xs : List D}, (∀ d ∈ xs, PyData.eqv d d = true) → PyData.eqvAll xs xs = true
  | [], _ => by simp
  | x :: xs, h => by
    rw [eqvAll_cons, h x (by simp), eqvAll_refl fun d hd => h d (List.mem_cons_of_mem _ hd)]
    rfl
@[simp] theorem intsD_nil : intsD [] = [] := rfl
@[simp] theorem intsD_cons (n : Int) (ns : List Int) : intsD (n :: ns) = .int n :: intsD ns := rfl
@[simp] theorem intsD_len (ns : List Int) : (intsD ns).length = ns.length := by simp [intsD]
theorem intsD_app (ns ms : List Int) : intsD (ns ++ ms) = intsD ns ++ intsD ms := by simp [intsD]
theorem intsD_get (ns : List Int) (i : Nat) : (intsD ns)[i]? = (ns[i]?).map .int := by simp [intsD]
theorem immL_ints : ∀ ns : List Int, immL (intsD ns) = true
  | [] => rfl
  | n :: ns => by simp [immL_ints ns]
@[simp] theorem imm_ints (ns : List Int) : imm (.tuple (intsD ns)) = true := by simp [immL_ints]
theorem atI_ints (ns : List Int) (i : Nat) (k : Int) (hk : k = i) (n : Int) (h : ns[i]? = some n) : atI (intsD ns) k = some (.int n) := by
  subst hk
  rw [atI_natCast, intsD_get, h]
  rfl
/-! ## slices -/
theorem cutD_from (xs : List D) (i : Int) (h : 0 ≤ i) : cutD xs (some i) none = xs.drop i.toNat := by
  obtain ⟨k, rfl⟩ := Int.eq_ofNat_of_zero_le h
  unfold cutD
  rw [HT.sIx_nat, HT.sIx_none, Int.toNat_natCast]
  by_cases hk : k ≤ xs.length
  · rw [Nat.min_eq_left hk, List.take_of_length_le (by rw [List.length_drop]; omega)]
  · rw [Nat.min_eq_right (by omega), Nat.sub_self, List.take_zero, List.drop_eq_nil_of_le (by omega)]
theorem cutD_to (xs : List D) (i : Int) (h : 0 ≤ i) : cutD xs none (some i) = xs.take i.toNat := by
  obtain ⟨k, rfl⟩ := Int.eq_ofNat_of_zero_le h
  unfold cutD
  rw [HT.sIx_nat, HT.sIx_none, Int.toNat_natCast, List.drop_zero, Nat.sub_zero]
  by_cases hk : k ≤ xs.length
  · rw [Nat.min_eq_left hk]
  · rw [Nat.min_eq_right (by omega), List.take_of_length_le (by omega), List.take_of_length_le (by omega)]
@[simp] theorem cutD_one (xs : List D) : cutD xs (some 1) none = xs.tail := by
  rw [cutD_from xs 1 (by decide)]
  exact List.drop_one
@[simp] theorem intsD_tail (ns : List Int) : (intsD ns).tail = intsD ns.tail := by simp [intsD]
@[simp] theorem cutD_nat (xs : List D) (k : Nat) : cutD xs none (some (k : Int)) = xs.take k := by
  rw [cutD_to xs k (by omega)]
  rfl
theorem intsD_drop (ns : List Int) (k : Nat) : (intsD ns).drop k = intsD (ns.drop k) := by simp [intsD]
theorem intsD_take (ns : List Int) (k : Nat) : (intsD ns).take k = intsD (ns.take k) := by simp [intsD]
theorem boolsOf_map (p : D → Bool) : ∀ ds : List D, boolsOf (ds.map fun d => .bool (p d)) = some (ds.map p)
  | [] => rfl
  | d :: ds => by simp [boolsOf_map p ds]
/-! ## ranges -/
theorem rngL_zero (lo : Int) : rngL lo 0 = [] := rfl
theorem rngL_succ (lo : Int) (n : Nat) : rngL lo (n + 1) = .int lo :: rngL (lo + 1) n := by
  unfold rngL
  rw [List.range_succ_eq_map, List.map_cons, List.map_map]
  congr 1
  · simp
  · apply List.map_congr_left
    intro i _
    show PyData.int (lo + ((i + 1 : Nat) : Int)) = .int (lo + 1 + (i : Int))
    congr 1
    omega
theorem rngL_len (lo : Int) (n : Nat) : (rngL lo n).length = n := by simp [rngL]
theorem rngL_mem {lo : Int} {n : Nat} {d : D} (h : d ∈ rngL lo n) : ∃ i : Int, d = .int i ∧ lo ≤ i ∧ i < lo + n := by
  obtain ⟨k, hk, rfl⟩ := List.mem_map.mp h
  rw [List.mem_range] at hk
  exact ⟨_, rfl, by omega, by omega⟩
theorem two62 : ((2 : Int) ^ 62) = 4611686018427387904 := by decide
theorem rng1_ok (j : Int) (h0 : -1000000000000000000 ≤ j) (h : j ≤ 1000000000000000000) : rng1 [.int j] = some (rngL 0 j.toNat) := by
  rw [rng1_def]
  show (if -(2 ^ 62 : Int) ≤ j ∧ j < 2 ^ 62 then some (rngL 0 j.toNat) else none) = _
  rw [two62]
  exact if_pos (by omega)
theorem rng1_nat (n : Nat) (h : n ≤ 1000000) : rng1 [.int (n : Int)] = some (rngL 0 n) := by
  rw [rng1_ok n (by omega) (by omega)]
  rfl
theorem rng2_ok (i j : Int) (h0 : -1000000000000000000 ≤ i) (h : i ≤ 1000000000000000000) (h1 : -1000000000000000000 ≤ j) (h2 : j ≤ 1000000000000000000) : rng2 [.int i, .int j] = some (rngL i (j - i).toNat) := by
  rw [rng2_def]
  show (if -(2 ^ 62 : Int) ≤ i ∧ i < 2 ^ 62 ∧ -(2 ^ 62) ≤ j ∧ j < 2 ^ 62 then some (rngL i (j - i).toNat) else none) = _
  rw [two62]
  exact if_pos (by omega)
/-! ## comprehensions and loops -/
theorem compL_fm {b : D → Rho → Option Rho} {t : Rho → Option Bool} {g : Rho → Option D} {ρ : Rho} (p : D → Bool) (f : D → D) : ∀ {ds : List D}, (∀ d ∈ ds, ∃ ρ1, b d ρ = some ρ1 ∧ t ρ1 = some (p d) ∧ (p d = true → g ρ1 = some (f d))) → compL b t g ρ ds = some ((ds.filter p).map f)
  | [], _ => rfl
  | d :: ds, h => by
    obtain ⟨ρ1, e1, e2, e3⟩ := h d (by simp)
    have ih := compL_fm (ds := ds) p f fun e he => h e (by simp [he])
    unfold compL
    rw [e1]
    simp only [Option.bind]
    rw [e2]
    by_cases hp : p d = true
    · simp [hp, e3 hp, ih]
    · simp [hp, ih]
theorem compL_map {b : D → Rho → Option Rho} {g : Rho → Option D} {ρ : Rho} (f : D → D) {ds : List D} (h : ∀ d ∈ ds, ∃ ρ1, b d ρ = some ρ1 ∧ g ρ1 = some (f d)) : compL b yesT g ρ ds = some (ds.map f) := by
  have := compL_fm (b := b) (t := yesT) (g := g) (ρ := ρ) (fun _ => true) f (ds := ds) fun d hd => by
    obtain ⟨ρ1, e1, e2⟩ := h d hd
    exact ⟨ρ1, e1, rfl, fun _ => e2⟩
  rwa [List.filter_eq_self.mpr (fun _ _ => rfl)] at this
theorem forL_inv {b : D → Rho → Option Rho} {F : Rho → Option Out} (I : List D → Rho → Prop) (h : ∀ d ds ρ, I (d :: ds) ρ → ∃ ρ1 ρ2, b d ρ = some ρ1 ∧ F ρ1 = some (.nx ρ2) ∧ I ds ρ2) : ∀ ds ρ, I ds ρ → ∃ ρ', forL b F ds ρ = some (.nx ρ') ∧ I [] ρ'
  | [], ρ, i => ⟨ρ, rfl, i⟩
  | d :: ds, ρ, i => by
    obtain ⟨ρ1, ρ2, e1, e2, i2⟩ := h d ds ρ i
    obtain ⟨ρ', e3, i3⟩ := forL_inv I h ds ρ2 i2
    exact ⟨ρ', by simp [e1, e2, e3], i3⟩
theorem forL_cons {b : D → Rho → Option Rho} {F : Rho → Option Out} {d : D} {ds : List D} {ρ ρ1 ρ2 : Rho} (h1 : b d ρ = some ρ1) (h2 : F ρ1 = some (.nx ρ2)) : forL b F (d :: ds) ρ = forL b F ds ρ2 := by simp [h1, h2]
theorem whl_go {c : Rho → Option (Bool × Rho)} {F : Rho → Option Out} {n : Nat} {ρ ρ1 ρ2 : Rho} (h1 : c ρ = some (true, ρ1)) (h2 : F ρ1 = some (.nx ρ2)) : whlL c F (n + 1) ρ = whlL c F n ρ2 := by simp [whlL, h1, h2]
theorem whl_end {c : Rho → Option (Bool × Rho)} {F : Rho → Option Out} {n : Nat} {ρ ρ1 : Rho} (h1 : c ρ = some (false, ρ1)) : whlL c F (n + 1) ρ = some (.nx ρ1) := by simp [whlL, h1]
theorem seq_eq {F G : Rho → Option Out} {ρ ρ1 : Rho} {r : Option Out} (h : F ρ = some (.nx ρ1)) (h2 : G ρ1 = r) : seqF F G ρ = r := by
  simp [seqF, h, h2]
theorem seq_ex {F G : Rho → Option Out} {ρ : Rho} (ρ1 : Rho) {J : Rho → Prop} (h : F ρ = some (.nx ρ1)) (h2 : ∃ ρ', G ρ1 = some (.nx ρ') ∧ J ρ') : ∃ ρ', seqF F G ρ = some (.nx ρ') ∧ J ρ' := by
  obtain ⟨ρ', e, j⟩ := h2
  exact ⟨ρ', seq_nx h e, j⟩
theorem last_ex {F : Rho → Option Out} {ρ : Rho} (ρ1 : Rho) {J : Rho → Prop} (h : F ρ = some (.nx ρ1)) (j : J ρ1) : ∃ ρ', F ρ = some (.nx ρ') ∧ J ρ' := ⟨ρ1, h, j⟩
theorem seq_ex2 {F G : Rho → Option Out} {ρ : Rho} {I J : Rho → Prop} (h : ∃ ρ1, F ρ = some (.nx ρ1) ∧ I ρ1) (h2 : ∀ ρ1, I ρ1 → ∃ ρ', G ρ1 = some (.nx ρ') ∧ J ρ') : ∃ ρ', seqF F G ρ = some (.nx ρ') ∧ J ρ' := by
  obtain ⟨ρ1, e, i⟩ := h
  obtain ⟨ρ', e2, j⟩ := h2 ρ1 i
  exact ⟨ρ', seq_nx e e2, j⟩
/-! ## draws, once more -/
theorem pickI {xs : List D} {r : Int} (h0 : 0 ≤ r) (h : r < xs.length) : ∃ d, atI xs r = some d ∧ d ∈ xs := by
  obtain ⟨k, rfl⟩ := Int.eq_ofNat_of_zero_le h0
  have hk : k < xs.length := by omega
  refine ⟨xs[k], ?_, List.getElem_mem hk⟩
  rw [atI_natCast, List.getElem?_eq_getElem hk]
end DL

namespace DL
open PySem PySem.Spec
open PyProof.Rows hiding St
open L2
/-! ## a tuple times none or one -/
theorem tuple_mul1 (l : Addr) (items : Array Value) (n : Nat) (dd : Option Addr) (sl : Array (Option Value)) (x : Int) (u : Tok) (c0 : (decide (x < -(2 ^ 63)) || decide (x ≥ 2 ^ 63)) = false) (c1 : (items.isEmpty || x == 1) = true) :
    Meets (Builtin.«tuple.__mul__» ⟨[.ref l, .int x u], []⟩) (fun _ R s => s.heap.get? l = some { cls := .type "tuple", dict := dd, data := .seq items n, slots := sl } ∧ R (.ok (.ret (Value.ref l))) { s with heap := s.heap, toks := s.toks }) :=
  .of_wp fun prog w A R s h => by
    obtain ⟨hp, g, d, tk, os⟩ := s
    obtain ⟨hl, h⟩ := h
    have f1 := AutoSeq1.idx_int
    wp_walk using wpAny_loadPart' hl
    repeat (first
      | (refine wpAny_ite_false (decide_eq_false (by rw [c0]; exact Bool.false_ne_true)) ?_; wp_walk using wpAny_loadPart' hl)
      | (refine wpAny_ite_true (decide_eq_true (by rw [c1])) ?_; wp_walk using wpAny_loadPart' hl))
    exact ⟨_, rfl, h⟩
theorem tuple_mul0 (l : Addr) (items : Array Value) (n : Nat) (dd : Option Addr) (sl : Array (Option Value)) (x : Int) (u : Tok) (c0 : (decide (x < -(2 ^ 63)) || decide (x ≥ 2 ^ 63)) = false) (c1 : (items.isEmpty || x == 1) = false) (c2 : (decide (x ≤ 0) || items.isEmpty) = true) :
    Meets (Builtin.«tuple.__mul__» ⟨[.ref l, .int x u], []⟩) (fun _ R s => s.heap.get? l = some { cls := .type "tuple", dict := dd, data := .seq items n, slots := sl } ∧
      R (.ok (.ret (Value.ref s.heap.objs.size))) { s with heap := s.heap.push { cls := Value.type "tuple", data := Data.seq #[] }, toks := s.toks }) :=
  .of_wp fun prog w A R s h => by
    obtain ⟨hp, g, d, tk, os⟩ := s
    obtain ⟨hl, h⟩ := h
    have f1 := AutoSeq1.idx_int
    wp_walk using wpAny_loadPart' hl
    repeat (first
      | (refine wpAny_ite_false (decide_eq_false (by rw [c0]; exact Bool.false_ne_true)) ?_; wp_walk using wpAny_loadPart' hl)
      | (refine wpAny_ite_false (decide_eq_false (by rw [c1]; exact Bool.false_ne_true)) ?_; wp_walk using wpAny_loadPart' hl)
      | (refine wpAny_ite_true (decide_eq_true (by rw [c2])) ?_; wp_walk using wpAny_loadPart' hl))
    exact ⟨_, rfl, h⟩
def rRep1 (K : PySem.W.Frag) : R2 := fun x y H Q => ∃ l k xs, x = .ref l ∧ y = .int k ∧ SqT K H l xs ∧ -1000 ≤ k ∧ k ≤ 1000 ∧ ((xs.isEmpty || k == 1) = true) ∧ Q (.ref l) H
def rRep0 (K : PySem.W.Frag) : R2 := fun x y H Q => ∃ l k xs, x = .ref l ∧ y = .int k ∧ SqT K H l xs ∧ xs ≠ [] ∧ -1000 ≤ k ∧ k ≤ 0 ∧ ∀ p, H p = none → Q (.ref p) (upd H p (.tup []))
section
variable {X : Cx}
theorem op_rep1 : OpR X (binaryOp .Mult) (rRep1 X.K) := by
  intro pins s σ H x y v u Q I rx ry h
  obtain ⟨l, k, xs, rfl, rfl, hT, h1, h2, hk, q⟩ := h
  cases rx
  obtain ⟨t, rfl⟩ := ry
  obtain ⟨its, r, ⟨⟨cls, dd, data, sl⟩, ho, hc, n, hd⟩, hs⟩ := I.tuple hT
  simp only at hc hd
  subst hc hd
  have hi : its.toArray.isEmpty = xs.isEmpty := by
    have := r.length
    cases its <;> cases xs <;> simp_all
  have c0 : (decide (k < -(2 ^ 63)) || decide (k ≥ 2 ^ 63)) = false := by
    rw [decide_eq_false (by omega), decide_eq_false (by omega)] <;> rfl
  have c1 : (its.toArray.isEmpty || k == 1) = true := by rw [hi]; exact hk
  refine wpAny_binaryOp_repeat_ref (T := "tuple") (U := "int") (by decide) ⟨_, ho, rfl⟩ (fun s' => typeIs_int s' k t) noFill_tuple_mul F.fills_int_mul F.slot_int_rmul repeat_tuple F.slot_int_index.lookup
    (call_meets F.slot_int_rmul (typeIs_int s k t) F.entry_int_rmul (F.args_int_rmul_2 _ _) (int_rmul_tuple k t l its.toArray n dd sl)
      ⟨ho, rfl, ⟨_, ho, rfl⟩, call_meets F.slot_tuple_mul ⟨_, ho, rfl⟩ F.entry_tuple_mul (F.args_tuple_mul_2 _ _) (tuple_mul1 l its.toArray n dd sl k t c0 c1) ⟨ho, ?_⟩⟩)
  exact ⟨.ref l, H, I, rfl, q⟩
theorem op_rep0 : OpR X (binaryOp .Mult) (rRep0 X.K) := by
  intro pins s σ H x y v u Q I rx ry h
  obtain ⟨l, k, xs, rfl, rfl, hT, hne, h1, h2, q⟩ := h
  cases rx
  obtain ⟨t, rfl⟩ := ry
  obtain ⟨its, r, ⟨⟨cls, dd, data, sl⟩, ho, hc, n, hd⟩, hs⟩ := I.tuple hT
  simp only at hc hd
  subst hc hd
  have hi : its.toArray.isEmpty = false := by
    have := r.length
    cases its with
    | nil => cases xs with
      | nil => exact absurd rfl hne
      | cons a b => simp at this
    | cons a b => rfl
  have c0 : (decide (k < -(2 ^ 63)) || decide (k ≥ 2 ^ 63)) = false := by
    rw [decide_eq_false (by omega), decide_eq_false (by omega)] <;> rfl
  have c1 : (its.toArray.isEmpty || k == 1) = false := by
    rw [hi, Bool.false_or]
    exact beq_eq_false_iff_ne.mpr (by omega)
  have c2 : (decide (k ≤ 0) || its.toArray.isEmpty) = true := by
    rw [decide_eq_true h2]; rfl
  refine wpAny_binaryOp_repeat_ref (T := "tuple") (U := "int") (by decide) ⟨_, ho, rfl⟩ (fun s' => typeIs_int s' k t) noFill_tuple_mul F.fills_int_mul F.slot_int_rmul repeat_tuple F.slot_int_index.lookup
    (call_meets F.slot_int_rmul (typeIs_int s k t) F.entry_int_rmul (F.args_int_rmul_2 _ _) (int_rmul_tuple k t l its.toArray n dd sl)
      ⟨ho, rfl, ⟨_, ho, rfl⟩, call_meets F.slot_tuple_mul ⟨_, ho, rfl⟩ F.entry_tuple_mul (F.args_tuple_mul_2 _ _) (tuple_mul0 l its.toArray n dd sl k t c0 c1 c2) ⟨ho, ?_⟩⟩)
  refine ⟨.ref s.heap.objs.size, _, I.laid (t' := s.toks) (o := .tup []) (fun b ob q => Heap.get?_push_of_some _ q) (Nat.le_refl _) ?_, rfl, q _ (I.hok.fresh (Nat.le_refl _))⟩
  exact ⟨by rw [sizeLine_eq]; exact Nat.zero_le _, [], .nil, IsTup.new _ _⟩
abbrev rMulT (K : PySem.W.Frag) : R2 := fun x y H Q => rI CMul (fun i j => .int (i * j)) x y H Q ∨ rRepT K x y H Q ∨ rRep1 K x y H Q ∨ rRep0 K x y H Q
theorem op_mulT : OpR X (binaryOp .Mult) (rMulT X.K) := op_mul.or (op_repT.or (op_rep1.or op_rep0))
end
@[simp] def mulT : D → D → Option D
  | .int i, .int j => if (-18446744073709551616 < i ∧ i < 18446744073709551616) ∨ (-18446744073709551616 < j ∧ j < 18446744073709551616) then some (.int (i * j)) else none
  | .tuple xs, .int k => if xs.length ≤ 1000 ∧ -1000 ≤ k ∧ k ≤ 1000 then some (.tuple (List.replicate k.toNat xs).flatten) else none
  | _, _ => none
theorem RepL.rep {O : Addr → Prop} {H : Hp} {ds : List D} {vs : List V} (r : RepL O H ds vs) : ∀ n : Nat, RepL O H (List.replicate n ds).flatten (List.replicate n vs).flatten
  | 0 => .nil
  | n + 1 => by
    rw [List.replicate_succ, List.replicate_succ, List.flatten_cons, List.flatten_cons]
    exact r.append (RepL.rep r n)
theorem o_mulT {K : PySem.W.Frag} : Op2 (rMulT K) mulT := by
  intro O H d e z x y Q t hf rx ry q
  unfold mulT at hf
  split at hf
  · next i j => exact .inl (o_mul O H (.int i) (.int j) z x y Q t hf rx ry q)
  · next xs k =>
    split at hf
    · next hc =>
      cases hf
      obtain ⟨h1, h2, h3⟩ := hc
      have rx' := rx
      simp only [Rep] at rx
      obtain ⟨a, vs, rfl, ha, r⟩ := rx
      have hl := r.length
      have hk := rep_int.mp ry
      by_cases hv : vs = []
      · subst hv
        have hx : xs = [] := List.length_eq_zero_iff.mp (by simpa using hl)
        subst hx
        refine .inr (.inr (.inl ⟨a, k, [], rfl, hk, .of ha, h2, h3, rfl, q _ H (Same.refl H) ?_⟩))
        have : (List.replicate k.toNat ([] : List D)).flatten = [] := by
          induction k.toNat with
          | zero => rfl
          | succ n ih => rw [List.replicate_succ, List.flatten_cons, ih]; rfl
        rw [this]
        exact rx'
      · by_cases k1 : k = 1
        · subst k1
          refine .inr (.inr (.inl ⟨a, 1, vs, rfl, hk, .of ha, h2, h3, by simp, q _ H (Same.refl H) ?_⟩))
          have : (List.replicate (1 : Int).toNat xs).flatten = xs := by
            show (List.replicate 1 xs).flatten = xs
            simp
          rw [this]
          exact rx'
        · by_cases k0 : k ≤ 0
          · refine .inr (.inr (.inr ⟨a, k, vs, rfl, hk, .of ha, hv, h2, k0, fun p hp => q _ _ (same_upd hp) ?_⟩))
            have : k.toNat = 0 := by omega
            rw [this]
            exact rep_tup hp .nil
          · refine .inr (.inl ⟨a, k, vs, rfl, hk, .of ha, hv, by omega, h3, by omega, fun p hp => q _ _ (same_upd hp) ?_⟩)
            exact rep_tup hp (RepL.rep r _)
    · cases hf
  · cases hf
theorem rep_one (x : D) : ∀ n : Nat, (List.replicate n [x]).flatten = List.replicate n x
  | 0 => rfl
  | n + 1 => by rw [List.replicate_succ, List.flatten_cons, rep_one x n]; rfl
theorem intsD_rep (i : Int) (n : Nat) : List.replicate n (PyData.int i) = intsD (List.replicate n i) := by simp [intsD]
end DL

namespace DL
open PySem PySem.Spec
open PyProof.Rows hiding St
open L2
/-! ## an environment of a known length -/
theorem exS {n : Nat} {ρ : Rho} (h : ρ.length = n + 1) : ∃ x r, ρ = x :: r ∧ r.length = n := match ρ, h with | x :: r, h => ⟨x, r, rfl, Nat.succ.inj h⟩
theorem ex1 {ρ : Rho} (h : ρ.length = 1) : ∃ x, ρ = [x] := match ρ, h with | [x], _ => ⟨x, rfl⟩
theorem ex2 {ρ : Rho} (h : ρ.length = 2) : ∃ x0 x1, ρ = [x0, x1] := by
  obtain ⟨x0, r, rfl, g⟩ := exS h
  obtain ⟨x1, rfl⟩ := ex1 g
  exact ⟨x0, x1, rfl⟩
theorem ex3 {ρ : Rho} (h : ρ.length = 3) : ∃ x0 x1 x2, ρ = [x0, x1, x2] := by
  obtain ⟨x0, r, rfl, g⟩ := exS h
  obtain ⟨x1, x2, rfl⟩ := ex2 g
  exact ⟨x0, x1, x2, rfl⟩
theorem ex4 {ρ : Rho} (h : ρ.length = 4) : ∃ x0 x1 x2 x3, ρ = [x0, x1, x2, x3] := by
  obtain ⟨x0, r, rfl, g⟩ := exS h
  obtain ⟨x1, x2, x3, rfl⟩ := ex3 g
  exact ⟨x0, x1, x2, x3, rfl⟩
theorem ex5 {ρ : Rho} (h : ρ.length = 5) : ∃ x0 x1 x2 x3 x4, ρ = [x0, x1, x2, x3, x4] := by
  obtain ⟨x0, r, rfl, g⟩ := exS h
  obtain ⟨x1, x2, x3, x4, rfl⟩ := ex4 g
  exact ⟨x0, x1, x2, x3, x4, rfl⟩
theorem ex6 {ρ : Rho} (h : ρ.length = 6) : ∃ x0 x1 x2 x3 x4 x5, ρ = [x0, x1, x2, x3, x4, x5] := by
  obtain ⟨x0, r, rfl, g⟩ := exS h
  obtain ⟨x1, x2, x3, x4, x5, rfl⟩ := ex5 g
  exact ⟨x0, x1, x2, x3, x4, x5, rfl⟩
theorem ex7 {ρ : Rho} (h : ρ.length = 7) : ∃ x0 x1 x2 x3 x4 x5 x6, ρ = [x0, x1, x2, x3, x4, x5, x6] := by
  obtain ⟨x0, r, rfl, g⟩ := exS h
  obtain ⟨x1, x2, x3, x4, x5, x6, rfl⟩ := ex6 g
  exact ⟨x0, x1, x2, x3, x4, x5, x6, rfl⟩
theorem ex8 {ρ : Rho} (h : ρ.length = 8) : ∃ x0 x1 x2 x3 x4 x5 x6 x7, ρ = [x0, x1, x2, x3, x4, x5, x6, x7] := by
  obtain ⟨x0, r, rfl, g⟩ := exS h
  obtain ⟨x1, x2, x3, x4, x5, x6, x7, rfl⟩ := ex7 g
  exact ⟨x0, x1, x2, x3, x4, x5, x6, x7, rfl⟩
theorem ex9 {ρ : Rho} (h : ρ.length = 9) : ∃ x0 x1 x2 x3 x4 x5 x6 x7 x8, ρ = [x0, x1, x2, x3, x4, x5, x6, x7, x8] := by
  obtain ⟨x0, r, rfl, g⟩ := exS h
  obtain ⟨x1, x2, x3, x4, x5, x6, x7, x8, rfl⟩ := ex8 g
  exact ⟨x0, x1, x2, x3, x4, x5, x6, x7, x8, rfl⟩
theorem ex10 {ρ : Rho} (h : ρ.length = 10) : ∃ x0 x1 x2 x3 x4 x5 x6 x7 x8 x9, ρ = [x0, x1, x2, x3, x4, x5, x6, x7, x8, x9] := by
  obtain ⟨x0, r, rfl, g⟩ := exS h
  obtain ⟨x1, x2, x3, x4, x5, x6, x7, x8, x9, rfl⟩ := ex9 g
  exact ⟨x0, x1, x2, x3, x4, x5, x6, x7, x8, x9, rfl⟩
theorem ex11 {ρ : Rho} (h : ρ.length = 11) : ∃ x0 x1 x2 x3 x4 x5 x6 x7 x8 x9 x10, ρ = [x0, x1, x2, x3, x4, x5, x6, x7, x8, x9, x10] := by
  obtain ⟨x0, r, rfl, g⟩ := exS h
  obtain ⟨x1, x2, x3, x4, x5, x6, x7, x8, x9, x10, rfl⟩ := ex10 g
  exact ⟨x0, x1, x2, x3, x4, x5, x6, x7, x8, x9, x10, rfl⟩
theorem ex12 {ρ : Rho} (h : ρ.length = 12) : ∃ x0 x1 x2 x3 x4 x5 x6 x7 x8 x9 x10 x11, ρ = [x0, x1, x2, x3, x4, x5, x6, x7, x8, x9, x10, x11] := by
  obtain ⟨x0, r, rfl, g⟩ := exS h
  obtain ⟨x1, x2, x3, x4, x5, x6, x7, x8, x9, x10, x11, rfl⟩ := ex11 g
  exact ⟨x0, x1, x2, x3, x4, x5, x6, x7, x8, x9, x10, x11, rfl⟩
theorem ex13 {ρ : Rho} (h : ρ.length = 13) : ∃ x0 x1 x2 x3 x4 x5 x6 x7 x8 x9 x10 x11 x12, ρ = [x0, x1, x2, x3, x4, x5, x6, x7, x8, x9, x10, x11, x12] := by
  obtain ⟨x0, r, rfl, g⟩ := exS h
  obtain ⟨x1, x2, x3, x4, x5, x6, x7, x8, x9, x10, x11, x12, rfl⟩ := ex12 g
  exact ⟨x0, x1, x2, x3, x4, x5, x6, x7, x8, x9, x10, x11, x12, rfl⟩
theorem ex14 {ρ : Rho} (h : ρ.length = 14) : ∃ x0 x1 x2 x3 x4 x5 x6 x7 x8 x9 x10 x11 x12 x13, ρ = [x0, x1, x2, x3, x4, x5, x6, x7, x8, x9, x10, x11, x12, x13] := by
  obtain ⟨x0, r, rfl, g⟩ := exS h
  obtain ⟨x1, x2, x3, x4, x5, x6, x7, x8, x9, x10, x11, x12, x13, rfl⟩ := ex13 g
  exact ⟨x0, x1, x2, x3, x4, x5, x6, x7, x8, x9, x10, x11, x12, x13, rfl⟩
theorem ex15 {ρ : Rho} (h : ρ.length = 15) : ∃ x0 x1 x2 x3 x4 x5 x6 x7 x8 x9 x10 x11 x12 x13 x14, ρ = [x0, x1, x2, x3, x4, x5, x6, x7, x8, x9, x10, x11, x12, x13, x14] := by
  obtain ⟨x0, r, rfl, g⟩ := exS h
  obtain ⟨x1, x2, x3, x4, x5, x6, x7, x8, x9, x10, x11, x12, x13, x14, rfl⟩ := ex14 g
  exact ⟨x0, x1, x2, x3, x4, x5, x6, x7, x8, x9, x10, x11, x12, x13, x14, rfl⟩
theorem ex16 {ρ : Rho} (h : ρ.length = 16) : ∃ x0 x1 x2 x3 x4 x5 x6 x7 x8 x9 x10 x11 x12 x13 x14 x15, ρ = [x0, x1, x2, x3, x4, x5, x6, x7, x8, x9, x10, x11, x12, x13, x14, x15] := by
  obtain ⟨x0, r, rfl, g⟩ := exS h
  obtain ⟨x1, x2, x3, x4, x5, x6, x7, x8, x9, x10, x11, x12, x13, x14, x15, rfl⟩ := ex15 g
  exact ⟨x0, x1, x2, x3, x4, x5, x6, x7, x8, x9, x10, x11, x12, x13, x14, x15, rfl⟩
theorem ex17 {ρ : Rho} (h : ρ.length = 17) : ∃ x0 x1 x2 x3 x4 x5 x6 x7 x8 x9 x10 x11 x12 x13 x14 x15 x16, ρ = [x0, x1, x2, x3, x4, x5, x6, x7, x8, x9, x10, x11, x12, x13, x14, x15, x16] := by
  obtain ⟨x0, r, rfl, g⟩ := exS h
  obtain ⟨x1, x2, x3, x4, x5, x6, x7, x8, x9, x10, x11, x12, x13, x14, x15, x16, rfl⟩ := ex16 g
  exact ⟨x0, x1, x2, x3, x4, x5, x6, x7, x8, x9, x10, x11, x12, x13, x14, x15, x16, rfl⟩
theorem ex18 {ρ : Rho} (h : ρ.length = 18) : ∃ x0 x1 x2 x3 x4 x5 x6 x7 x8 x9 x10 x11 x12 x13 x14 x15 x16 x17, ρ = [x0, x1, x2, x3, x4, x5, x6, x7, x8, x9, x10, x11, x12, x13, x14, x15, x16, x17] := by
  obtain ⟨x0, r, rfl, g⟩ := exS h
  obtain ⟨x1, x2, x3, x4, x5, x6, x7, x8, x9, x10, x11, x12, x13, x14, x15, x16, x17, rfl⟩ := ex17 g
  exact ⟨x0, x1, x2, x3, x4, x5, x6, x7, x8, x9, x10, x11, x12, x13, x14, x15, x16, x17, rfl⟩
theorem ex19 {ρ : Rho} (h : ρ.length = 19) : ∃ x0 x1 x2 x3 x4 x5 x6 x7 x8 x9 x10 x11 x12 x13 x14 x15 x16 x17 x18, ρ = [x0, x1, x2, x3, x4, x5, x6, x7, x8, x9, x10, x11, x12, x13, x14, x15, x16, x17, x18] := by
  obtain ⟨x0, r, rfl, g⟩ := exS h
  obtain ⟨x1, x2, x3, x4, x5, x6, x7, x8, x9, x10, x11, x12, x13, x14, x15, x16, x17, x18, rfl⟩ := ex18 g
  exact ⟨x0, x1, x2, x3, x4, x5, x6, x7, x8, x9, x10, x11, x12, x13, x14, x15, x16, x17, x18, rfl⟩
theorem ex20 {ρ : Rho} (h : ρ.length = 20) : ∃ x0 x1 x2 x3 x4 x5 x6 x7 x8 x9 x10 x11 x12 x13 x14 x15 x16 x17 x18 x19, ρ = [x0, x1, x2, x3, x4, x5, x6, x7, x8, x9, x10, x11, x12, x13, x14, x15, x16, x17, x18, x19] := by
  obtain ⟨x0, r, rfl, g⟩ := exS h
  obtain ⟨x1, x2, x3, x4, x5, x6, x7, x8, x9, x10, x11, x12, x13, x14, x15, x16, x17, x18, x19, rfl⟩ := ex19 g
  exact ⟨x0, x1, x2, x3, x4, x5, x6, x7, x8, x9, x10, x11, x12, x13, x14, x15, x16, x17, x18, x19, rfl⟩
theorem ex21 {ρ : Rho} (h : ρ.length = 21) : ∃ x0 x1 x2 x3 x4 x5 x6 x7 x8 x9 x10 x11 x12 x13 x14 x15 x16 x17 x18 x19 x20, ρ = [x0, x1, x2, x3, x4, x5, x6, x7, x8, x9, x10, x11, x12, x13, x14, x15, x16, x17, x18, x19, x20] := by
  obtain ⟨x0, r, rfl, g⟩ := exS h
  obtain ⟨x1, x2, x3, x4, x5, x6, x7, x8, x9, x10, x11, x12, x13, x14, x15, x16, x17, x18, x19, x20, rfl⟩ := ex20 g
  exact ⟨x0, x1, x2, x3, x4, x5, x6, x7, x8, x9, x10, x11, x12, x13, x14, x15, x16, x17, x18, x19, x20, rfl⟩
theorem ex22 {ρ : Rho} (h : ρ.length = 22) : ∃ x0 x1 x2 x3 x4 x5 x6 x7 x8 x9 x10 x11 x12 x13 x14 x15 x16 x17 x18 x19 x20 x21, ρ = [x0, x1, x2, x3, x4, x5, x6, x7, x8, x9, x10, x11, x12, x13, x14, x15, x16, x17, x18, x19, x20, x21] := by
  obtain ⟨x0, r, rfl, g⟩ := exS h
  obtain ⟨x1, x2, x3, x4, x5, x6, x7, x8, x9, x10, x11, x12, x13, x14, x15, x16, x17, x18, x19, x20, x21, rfl⟩ := ex21 g
  exact ⟨x0, x1, x2, x3, x4, x5, x6, x7, x8, x9, x10, x11, x12, x13, x14, x15, x16, x17, x18, x19, x20, x21, rfl⟩
theorem ex23 {ρ : Rho} (h : ρ.length = 23) : ∃ x0 x1 x2 x3 x4 x5 x6 x7 x8 x9 x10 x11 x12 x13 x14 x15 x16 x17 x18 x19 x20 x21 x22, ρ = [x0, x1, x2, x3, x4, x5, x6, x7, x8, x9, x10, x11, x12, x13, x14, x15, x16, x17, x18, x19, x20, x21, x22] := by
  obtain ⟨x0, r, rfl, g⟩ := exS h
  obtain ⟨x1, x2, x3, x4, x5, x6, x7, x8, x9, x10, x11, x12, x13, x14, x15, x16, x17, x18, x19, x20, x21, x22, rfl⟩ := ex22 g
  exact ⟨x0, x1, x2, x3, x4, x5, x6, x7, x8, x9, x10, x11, x12, x13, x14, x15, x16, x17, x18, x19, x20, x21, x22, rfl⟩
theorem ex24 {ρ : Rho} (h : ρ.length = 24) : ∃ x0 x1 x2 x3 x4 x5 x6 x7 x8 x9 x10 x11 x12 x13 x14 x15 x16 x17 x18 x19 x20 x21 x22 x23, ρ = [x0, x1, x2, x3, x4, x5, x6, x7, x8, x9, x10, x11, x12, x13, x14, x15, x16, x17, x18, x19, x20, x21, x22, x23] := by
  obtain ⟨x0, r, rfl, g⟩ := exS h
  obtain ⟨x1, x2, x3, x4, x5, x6, x7, x8, x9, x10, x11, x12, x13, x14, x15, x16, x17, x18, x19, x20, x21, x22, x23, rfl⟩ := ex23 g
  exact ⟨x0, x1, x2, x3, x4, x5, x6, x7, x8, x9, x10, x11, x12, x13, x14, x15, x16, x17, x18, x19, x20, x21, x22, x23, rfl⟩
theorem ex25 {ρ : Rho} (h : ρ.length = 25) : ∃ x0 x1 x2 x3 x4 x5 x6 x7 x8 x9 x10 x11 x12 x13 x14 x15 x16 x17 x18 x19 x20 x21 x22 x23 x24, ρ = [x0, x1, x2, x3, x4, x5, x6, x7, x8, x9, x10, x11, x12, x13, x14, x15, x16, x17, x18, x19, x20, x21, x22, x23, x24] := by
  obtain ⟨x0, r, rfl, g⟩ := exS h
  obtain ⟨x1, x2, x3, x4, x5, x6, x7, x8, x9, x10, x11, x12, x13, x14, x15, x16, x17, x18, x19, x20, x21, x22, x23, x24, rfl⟩ := ex24 g
  exact ⟨x0, x1, x2, x3, x4, x5, x6, x7, x8, x9, x10, x11, x12, x13, x14, x15, x16, x17, x18, x19, x20, x21, x22, x23, x24, rfl⟩
theorem ex26 {ρ : Rho} (h : ρ.length = 26) : ∃ x0 x1 x2 x3 x4 x5 x6 x7 x8 x9 x10 x11 x12 x13 x14 x15 x16 x17 x18 x19 x20 x21 x22 x23 x24 x25, ρ = [x0, x1, x2, x3, x4, x5, x6, x7, x8, x9, x10, x11, x12, x13, x14, x15, x16, x17, x18, x19, x20, x21, x22, x23, x24, x25] := by
  obtain ⟨x0, r, rfl, g⟩ := exS h
  obtain ⟨x1, x2, x3, x4, x5, x6, x7, x8, x9, x10, x11, x12, x13, x14, x15, x16, x17, x18, x19, x20, x21, x22, x23, x24, x25, rfl⟩ := ex25 g
  exact ⟨x0, x1, x2, x3, x4, x5, x6, x7, x8, x9, x10, x11, x12, x13, x14, x15, x16, x17, x18, x19, x20, x21, x22, x23, x24, x25, rfl⟩
theorem ex27 {ρ : Rho} (h : ρ.length = 27) : ∃ x0 x1 x2 x3 x4 x5 x6 x7 x8 x9 x10 x11 x12 x13 x14 x15 x16 x17 x18 x19 x20 x21 x22 x23 x24 x25 x26, ρ = [x0, x1, x2, x3, x4, x5, x6, x7, x8, x9, x10, x11, x12, x13, x14, x15, x16, x17, x18, x19, x20, x21, x22, x23, x24, x25, x26] := by
  obtain ⟨x0, r, rfl, g⟩ := exS h
  obtain ⟨x1, x2, x3, x4, x5, x6, x7, x8, x9, x10, x11, x12, x13, x14, x15, x16, x17, x18, x19, x20, x21, x22, x23, x24, x25, x26, rfl⟩ := ex26 g
  exact ⟨x0, x1, x2, x3, x4, x5, x6, x7, x8, x9, x10, x11, x12, x13, x14, x15, x16, x17, x18, x19, x20, x21, x22, x23, x24, x25, x26, rfl⟩
theorem ex28 {ρ : Rho} (h : ρ.length = 28) : ∃ x0 x1 x2 x3 x4 x5 x6 x7 x8 x9 x10 x11 x12 x13 x14 x15 x16 x17 x18 x19 x20 x21 x22 x23 x24 x25 x26 x27, ρ = [x0, x1, x2, x3, x4, x5, x6, x7, x8, x9, x10, x11, x12, x13, x14, x15, x16, x17, x18, x19, x20, x21, x22, x23, x24, x25, x26, x27] := by
  obtain ⟨x0, r, rfl, g⟩ := exS h
  obtain ⟨x1, x2, x3, x4, x5, x6, x7, x8, x9, x10, x11, x12, x13, x14, x15, x16, x17, x18, x19, x20, x21, x22, x23, x24, x25, x26, x27, rfl⟩ := ex27 g
  exact ⟨x0, x1, x2, x3, x4, x5, x6, x7, x8, x9, x10, x11, x12, x13, x14, x15, x16, x17, x18, x19, x20, x21, x22, x23, x24, x25, x26, x27, rfl⟩
theorem ex29 {ρ : Rho} (h : ρ.length = 29) : ∃ x0 x1 x2 x3 x4 x5 x6 x7 x8 x9 x10 x11 x12 x13 x14 x15 x16 x17 x18 x19 x20 x21 x22 x23 x24 x25 x26 x27 x28, ρ = [x0, x1, x2, x3, x4, x5, x6, x7, x8, x9, x10, x11, x12, x13, x14, x15, x16, x17, x18, x19, x20, x21, x22, x23, x24, x25, x26, x27, x28] := by
  obtain ⟨x0, r, rfl, g⟩ := exS h
  obtain ⟨x1, x2, x3, x4, x5, x6, x7, x8, x9, x10, x11, x12, x13, x14, x15, x16, x17, x18, x19, x20, x21, x22, x23, x24, x25, x26, x27, x28, rfl⟩ := ex28 g
  exact ⟨x0, x1, x2, x3, x4, x5, x6, x7, x8, x9, x10, x11, x12, x13, x14, x15, x16, x17, x18, x19, x20, x21, x22, x23, x24, x25, x26, x27, x28, rfl⟩
theorem ex30 {ρ : Rho} (h : ρ.length = 30) : ∃ x0 x1 x2 x3 x4 x5 x6 x7 x8 x9 x10 x11 x12 x13 x14 x15 x16 x17 x18 x19 x20 x21 x22 x23 x24 x25 x26 x27 x28 x29, ρ = [x0, x1, x2, x3, x4, x5, x6, x7, x8, x9, x10, x11, x12, x13, x14, x15, x16, x17, x18, x19, x20, x21, x22, x23, x24, x25, x26, x27, x28, x29] := by
  obtain ⟨x0, r, rfl, g⟩ := exS h
  obtain ⟨x1, x2, x3, x4, x5, x6, x7, x8, x9, x10, x11, x12, x13, x14, x15, x16, x17, x18, x19, x20, x21, x22, x23, x24, x25, x26, x27, x28, x29, rfl⟩ := ex29 g
  exact ⟨x0, x1, x2, x3, x4, x5, x6, x7, x8, x9, x10, x11, x12, x13, x14, x15, x16, x17, x18, x19, x20, x21, x22, x23, x24, x25, x26, x27, x28, x29, rfl⟩
theorem ex31 {ρ : Rho} (h : ρ.length = 31) : ∃ x0 x1 x2 x3 x4 x5 x6 x7 x8 x9 x10 x11 x12 x13 x14 x15 x16 x17 x18 x19 x20 x21 x22 x23 x24 x25 x26 x27 x28 x29 x30, ρ = [x0, x1, x2, x3, x4, x5, x6, x7, x8, x9, x10, x11, x12, x13, x14, x15, x16, x17, x18, x19, x20, x21, x22, x23, x24, x25, x26, x27, x28, x29, x30] := by
  obtain ⟨x0, r, rfl, g⟩ := exS h
  obtain ⟨x1, x2, x3, x4, x5, x6, x7, x8, x9, x10, x11, x12, x13, x14, x15, x16, x17, x18, x19, x20, x21, x22, x23, x24, x25, x26, x27, x28, x29, x30, rfl⟩ := ex30 g
  exact ⟨x0, x1, x2, x3, x4, x5, x6, x7, x8, x9, x10, x11, x12, x13, x14, x15, x16, x17, x18, x19, x20, x21, x22, x23, x24, x25, x26, x27, x28, x29, x30, rfl⟩
theorem ex32 {ρ : Rho} (h : ρ.length = 32) : ∃ x0 x1 x2 x3 x4 x5 x6 x7 x8 x9 x10 x11 x12 x13 x14 x15 x16 x17 x18 x19 x20 x21 x22 x23 x24 x25 x26 x27 x28 x29 x30 x31, ρ = [x0, x1, x2, x3, x4, x5, x6, x7, x8, x9, x10, x11, x12, x13, x14, x15, x16, x17, x18, x19, x20, x21, x22, x23, x24, x25, x26, x27, x28, x29, x30, x31] := by
  obtain ⟨x0, r, rfl, g⟩ := exS h
  obtain ⟨x1, x2, x3, x4, x5, x6, x7, x8, x9, x10, x11, x12, x13, x14, x15, x16, x17, x18, x19, x20, x21, x22, x23, x24, x25, x26, x27, x28, x29, x30, x31, rfl⟩ := ex31 g
  exact ⟨x0, x1, x2, x3, x4, x5, x6, x7, x8, x9, x10, x11, x12, x13, x14, x15, x16, x17, x18, x19, x20, x21, x22, x23, x24, x25, x26, x27, x28, x29, x30, x31, rfl⟩
theorem ex33 {ρ : Rho} (h : ρ.length = 33) : ∃ x0 x1 x2 x3 x4 x5 x6 x7 x8 x9 x10 x11 x12 x13 x14 x15 x16 x17 x18 x19 x20 x21 x22 x23 x24 x25 x26 x27 x28 x29 x30 x31 x32, ρ = [x0, x1, x2, x3, x4, x5, x6, x7, x8, x9, x10, x11, x12, x13, x14, x15, x16, x17, x18, x19, x20, x21, x22, x23, x24, x25, x26, x27, x28, x29, x30, x31, x32] := by
  obtain ⟨x0, r, rfl, g⟩ := exS h
  obtain ⟨x1, x2, x3, x4, x5, x6, x7, x8, x9, x10, x11, x12, x13, x14, x15, x16, x17, x18, x19, x20, x21, x22, x23, x24, x25, x26, x27, x28, x29, x30, x31, x32, rfl⟩ := ex32 g
  exact ⟨x0, x1, x2, x3, x4, x5, x6, x7, x8, x9, x10, x11, x12, x13, x14, x15, x16, x17, x18, x19, x20, x21, x22, x23, x24, x25, x26, x27, x28, x29, x30, x31, x32, rfl⟩
theorem ex34 {ρ : Rho} (h : ρ.length = 34) : ∃ x0 x1 x2 x3 x4 x5 x6 x7 x8 x9 x10 x11 x12 x13 x14 x15 x16 x17 x18 x19 x20 x21 x22 x23 x24 x25 x26 x27 x28 x29 x30 x31 x32 x33, ρ = [x0, x1, x2, x3, x4, x5, x6, x7, x8, x9, x10, x11, x12, x13, x14, x15, x16, x17, x18, x19, x20, x21, x22, x23, x24, x25, x26, x27, x28, x29, x30, x31, x32, x33] := by
  obtain ⟨x0, r, rfl, g⟩ := exS h
  obtain ⟨x1, x2, x3, x4, x5, x6, x7, x8, x9, x10, x11, x12, x13, x14, x15, x16, x17, x18, x19, x20, x21, x22, x23, x24, x25, x26, x27, x28, x29, x30, x31, x32, x33, rfl⟩ := ex33 g
  exact ⟨x0, x1, x2, x3, x4, x5, x6, x7, x8, x9, x10, x11, x12, x13, x14, x15, x16, x17, x18, x19, x20, x21, x22, x23, x24, x25, x26, x27, x28, x29, x30, x31, x32, x33, rfl⟩
theorem ex35 {ρ : Rho} (h : ρ.length = 35) : ∃ x0 x1 x2 x3 x4 x5 x6 x7 x8 x9 x10 x11 x12 x13 x14 x15 x16 x17 x18 x19 x20 x21 x22 x23 x24 x25 x26 x27 x28 x29 x30 x31 x32 x33 x34, ρ = [x0, x1, x2, x3, x4, x5, x6, x7, x8, x9, x10, x11, x12, x13, x14, x15, x16, x17, x18, x19, x20, x21, x22, x23, x24, x25, x26, x27, x28, x29, x30, x31, x32, x33, x34] := by
  obtain ⟨x0, r, rfl, g⟩ := exS h
  obtain ⟨x1, x2, x3, x4, x5, x6, x7, x8, x9, x10, x11, x12, x13, x14, x15, x16, x17, x18, x19, x20, x21, x22, x23, x24, x25, x26, x27, x28, x29, x30, x31, x32, x33, x34, rfl⟩ := ex34 g
  exact ⟨x0, x1, x2, x3, x4, x5, x6, x7, x8, x9, x10, x11, x12, x13, x14, x15, x16, x17, x18, x19, x20, x21, x22, x23, x24, x25, x26, x27, x28, x29, x30, x31, x32, x33, x34, rfl⟩
theorem ex36 {ρ : Rho} (h : ρ.length = 36) : ∃ x0 x1 x2 x3 x4 x5 x6 x7 x8 x9 x10 x11 x12 x13 x14 x15 x16 x17 x18 x19 x20 x21 x22 x23 x24 x25 x26 x27 x28 x29 x30 x31 x32 x33 x34 x35, ρ = [x0, x1, x2, x3, x4, x5, x6, x7, x8, x9, x10, x11, x12, x13, x14, x15, x16, x17, x18, x19, x20, x21, x22, x23, x24, x25, x26, x27, x28, x29, x30, x31, x32, x33, x34, x35] := by
  obtain ⟨x0, r, rfl, g⟩ := exS h
  obtain ⟨x1, x2, x3, x4, x5, x6, x7, x8, x9, x10, x11, x12, x13, x14, x15, x16, x17, x18, x19, x20, x21, x22, x23, x24, x25, x26, x27, x28, x29, x30, x31, x32, x33, x34, x35, rfl⟩ := ex35 g
  exact ⟨x0, x1, x2, x3, x4, x5, x6, x7, x8, x9, x10, x11, x12, x13, x14, x15, x16, x17, x18, x19, x20, x21, x22, x23, x24, x25, x26, x27, x28, x29, x30, x31, x32, x33, x34, x35, rfl⟩
theorem ex37 {ρ : Rho} (h : ρ.length = 37) : ∃ x0 x1 x2 x3 x4 x5 x6 x7 x8 x9 x10 x11 x12 x13 x14 x15 x16 x17 x18 x19 x20 x21 x22 x23 x24 x25 x26 x27 x28 x29 x30 x31 x32 x33 x34 x35 x36, ρ = [x0, x1, x2, x3, x4, x5, x6, x7, x8, x9, x10, x11, x12, x13, x14, x15, x16, x17, x18, x19, x20, x21, x22, x23, x24, x25, x26, x27, x28, x29, x30, x31, x32, x33, x34, x35, x36] := by
  obtain ⟨x0, r, rfl, g⟩ := exS h
  obtain ⟨x1, x2, x3, x4, x5, x6, x7, x8, x9, x10, x11, x12, x13, x14, x15, x16, x17, x18, x19, x20, x21, x22, x23, x24, x25, x26, x27, x28, x29, x30, x31, x32, x33, x34, x35, x36, rfl⟩ := ex36 g
  exact ⟨x0, x1, x2, x3, x4, x5, x6, x7, x8, x9, x10, x11, x12, x13, x14, x15, x16, x17, x18, x19, x20, x21, x22, x23, x24, x25, x26, x27, x28, x29, x30, x31, x32, x33, x34, x35, x36, rfl⟩
theorem ex38 {ρ : Rho} (h : ρ.length = 38) : ∃ x0 x1 x2 x3 x4 x5 x6 x7 x8 x9 x10 x11 x12 x13 x14 x15 x16 x17 x18 x19 x20 x21 x22 x23 x24 x25 x26 x27 x28 x29 x30 x31 x32 x33 x34 x35 x36 x37, ρ = [x0, x1, x2, x3, x4, x5, x6, x7, x8, x9, x10, x11, x12, x13, x14, x15, x16, x17, x18, x19, x20, x21, x22, x23, x24, x25, x26, x27, x28, x29, x30, x31, x32, x33, x34, x35, x36, x37] := by
  obtain ⟨x0, r, rfl, g⟩ := exS h
  obtain ⟨x1, x2, x3, x4, x5, x6, x7, x8, x9, x10, x11, x12, x13, x14, x15, x16, x17, x18, x19, x20, x21, x22, x23, x24, x25, x26, x27, x28, x29, x30, x31, x32, x33, x34, x35, x36, x37, rfl⟩ := ex37 g
  exact ⟨x0, x1, x2, x3, x4, x5, x6, x7, x8, x9, x10, x11, x12, x13, x14, x15, x16, x17, x18, x19, x20, x21, x22, x23, x24, x25, x26, x27, x28, x29, x30, x31, x32, x33, x34, x35, x36, x37, rfl⟩
theorem ex39 {ρ : Rho} (h : ρ.length = 39) : ∃ x0 x1 x2 x3 x4 x5 x6 x7 x8 x9 x10 x11 x12 x13 x14 x15 x16 x17 x18 x19 x20 x21 x22 x23 x24 x25 x26 x27 x28 x29 x30 x31 x32 x33 x34 x35 x36 x37 x38, ρ = [x0, x1, x2, x3, x4, x5, x6, x7, x8, x9, x10, x11, x12, x13, x14, x15, x16, x17, x18, x19, x20, x21, x22, x23, x24, x25, x26, x27, x28, x29, x30, x31, x32, x33, x34, x35, x36, x37, x38] := by
  obtain ⟨x0, r, rfl, g⟩ := exS h
  obtain ⟨x1, x2, x3, x4, x5, x6, x7, x8, x9, x10, x11, x12, x13, x14, x15, x16, x17, x18, x19, x20, x21, x22, x23, x24, x25, x26, x27, x28, x29, x30, x31, x32, x33, x34, x35, x36, x37, x38, rfl⟩ := ex38 g
  exact ⟨x0, x1, x2, x3, x4, x5, x6, x7, x8, x9, x10, x11, x12, x13, x14, x15, x16, x17, x18, x19, x20, x21, x22, x23, x24, x25, x26, x27, x28, x29, x30, x31, x32, x33, x34, x35, x36, x37, x38, rfl⟩
theorem ex40 {ρ : Rho} (h : ρ.length = 40) : ∃ x0 x1 x2 x3 x4 x5 x6 x7 x8 x9 x10 x11 x12 x13 x14 x15 x16 x17 x18 x19 x20 x21 x22 x23 x24 x25 x26 x27 x28 x29 x30 x31 x32 x33 x34 x35 x36 x37 x38 x39, ρ = [x0, x1, x2, x3, x4, x5, x6, x7, x8, x9, x10, x11, x12, x13, x14, x15, x16, x17, x18, x19, x20, x21, x22, x23, x24, x25, x26, x27, x28, x29, x30, x31, x32, x33, x34, x35, x36, x37, x38, x39] := by
  obtain ⟨x0, r, rfl, g⟩ := exS h
  obtain ⟨x1, x2, x3, x4, x5, x6, x7, x8, x9, x10, x11, x12, x13, x14, x15, x16, x17, x18, x19, x20, x21, x22, x23, x24, x25, x26, x27, x28, x29, x30, x31, x32, x33, x34, x35, x36, x37, x38, x39, rfl⟩ := ex39 g
  exact ⟨x0, x1, x2, x3, x4, x5, x6, x7, x8, x9, x10, x11, x12, x13, x14, x15, x16, x17, x18, x19, x20, x21, x22, x23, x24, x25, x26, x27, x28, x29, x30, x31, x32, x33, x34, x35, x36, x37, x38, x39, rfl⟩
end DL

namespace DL
open PySem PySem.Spec
open PyProof.Rows hiding St
open L2
/-! ## a slice of what is drawn -/
@[simp] def slE (f : Rho → Option (D × Rho)) (gl gh : Rho → Option (Option Int)) : Rho → Option (D × Rho) := fun ρ => (f ρ).bind fun p => (gl p.2).bind fun lo => (gh p.2).bind fun hi => (slcD p.1 lo hi).bind fun z => some (z, p.2)
section
variable {X : Cx} {B : Base} {m : Md} {e : Expr} {lo hi : Option Expr} {g : Rho → Option D} {f : Rho → Option (D × Rho)} {gl gh : Rho → Option (Option Int)} {pos p2 : Pos}
theorem de_slice (he : DE X B e f) (hl : DPO X B .str lo gl) (hh : DPO X B .str hi gh) : DE X B (.Subscript e (.Slice lo hi none p2) pos) (slE f gl gh) :=
  ⟨(pe_slice (sl_list.or sl_tupA) he.pe hl.po hh.po).imp fun σ H Q ⟨O, ρ, d, ρ', gd, e, q⟩ => by
    obtain ⟨⟨x, ρ1⟩, e1, e'⟩ := bind_some e
    obtain ⟨l, e2, e''⟩ := bind_some e'
    obtain ⟨h, e3, e4⟩ := bind_some e''
    obtain ⟨z, e5, e6⟩ := bind_some e4
    cases e6
    refine ⟨O, ρ, x, _, gd, e1, fun v H1 s1 r1 => ⟨O, _, l, s1.good, e2, fun H2 s2 => ⟨O, _, h, s1.good.same s2, e3, fun H3 s3 => ?_⟩⟩⟩
    have s13 := (s1.samr s2).samr s3
    have r3 := (r1.same s2).same s3
    cases x with
    | list xs =>
      cases e5
      simp only [Rep] at r3
      obtain ⟨a, vs, rfl, no, ha, r⟩ := r3
      exact .inl ⟨a, vs, rfl, .of ha, fun p hp => q _ _ (s13.samr (same_upd hp)) (rep_lst (s13.good.otr .str) hp (cut_rep r))⟩
    | tuple xs =>
      cases e5
      simp only [Rep] at r3
      obtain ⟨a, vs, rfl, ha, r⟩ := r3
      refine .inr ⟨a, vs, rfl, .of ha, fun hw => ?_, fun _ p hp => q _ _ (s13.samr (same_upd hp)) (rep_tup hp (cut_rep r))⟩
      refine q _ H3 s13 ?_
      have hc : cutV vs l h = vs := by
        unfold cutV
        rw [hw.1, hw.2]
        simp
      have := cut_rep (lo := l) (hi := h) r
      rw [hc] at this
      simp only [Rep]
      exact ⟨a, vs, rfl, ha, this⟩
    | _ => cases e5⟩
end
/-! ## list(range(..)) -/
@[simp] def lrgD : List D → Option D
  | [.int j] => if -1000000 ≤ j ∧ j ≤ 1000000 then some (.list (rngL 0 j.toNat)) else none
  | [.int i, .int j] => if -1000000 ≤ i ∧ i ≤ 1000000 ∧ -1000000 ≤ j ∧ j ≤ 1000000 then some (.list (rngL i (j - i).toNat)) else none
  | _ => none
theorem rep_rg {O : Addr → Prop} {H : Hp} (a b : Int) : RepL O H (rngL a (b - a).toNat) (rgV a b) := by
  unfold rngL rgV
  generalize (b - a).toNat = n
  induction List.range n with
  | nil => exact .nil
  | cons k ks ih => exact .cons (rep_int.mpr rfl) ih
section
variable {X : Cx} {B : Base} {m : Md} {a b e : Expr} {ga gb : Rho → Option D} {pos p pos2 q2 : Pos}
theorem dp_lrg1 (hc : X.calm = true) (hm : X.mg "list" = none) (hr : X.mg "range" = none) (ha : DP X B m a ga) (hg : Gl X "list" := by rfl) (hgr : Gl X "range" := by rfl) (na : starEach [a] X.env = (false, eval a X.env) :: starEach [] X.env := by rfl)
    (nl : starEach [Expr.Call (.Name "range" q2) [a] [] pos2] X.env = (false, eval (.Call (.Name "range" q2) [a] [] pos2) X.env) :: starEach [] X.env := by rfl) :
    DP X B m (.Call (.Name "list" p) [.Call (.Name "range" q2) [a] [] pos2] [] pos) (nD (consA ga nilA) lrgD) :=
  ⟨(pe_listRg hc hg hm (prg_1 hgr hr ha.pe na) nl).imp fun σ H Q ⟨O, ρ, d, gd, e, q⟩ => by
    obtain ⟨ds, e1, e2⟩ := bind_some e
    obtain ⟨d1, e3, e4⟩ := bind_some e1
    cases e4
    refine ⟨O, ρ, d1, gd, e3, fun v H1 s1 r1 => ?_⟩
    cases d1 with
    | int j =>
      simp only [lrgD] at e2
      split at e2
      · next hj =>
        cases e2
        refine ⟨j, rep_int.mp r1, ⟨by omega, by omega, by omega, by omega, by omega⟩, fun l hl => q _ _ (s1.trans (same_upd hl)) (rep_lst ((gd.same s1).otr m) hl ?_)⟩
        have := rep_rg (O := m.O B O) (H := H1) 0 j
        rwa [Int.sub_zero] at this
      · cases e2
    | _ => simp [lrgD] at e2⟩
theorem dp_lrg2 (hc : X.calm = true) (hm : X.mg "list" = none) (hr : X.mg "range" = none) (ha : DP X B m a ga) (hb : DP X B m b gb) (hg : Gl X "list" := by rfl) (hgr : Gl X "range" := by rfl) (na : starEach [a, b] X.env = (false, eval a X.env) :: starEach [b] X.env := by rfl)
    (nb : starEach [b] X.env = (false, eval b X.env) :: starEach [] X.env := by rfl) (hp : (backTo pos2 (starEach [b] X.env)).any (·.1) = false := by rfl)
    (nl : starEach [Expr.Call (.Name "range" q2) [a, b] [] pos2] X.env = (false, eval (.Call (.Name "range" q2) [a, b] [] pos2) X.env) :: starEach [] X.env := by rfl) :
    DP X B m (.Call (.Name "list" p) [.Call (.Name "range" q2) [a, b] [] pos2] [] pos) (nD (consA ga (consA gb nilA)) lrgD) :=
  ⟨(pe_listRg hc hg hm (prg_2 hgr hr ha.pe hb.pe na nb hp) nl).imp fun σ H Q ⟨O, ρ, d, gd, e, q⟩ => by
    obtain ⟨ds, e1, e2⟩ := bind_some e
    obtain ⟨d1, e3, e4⟩ := bind_some e1
    obtain ⟨ds2, e5, e6⟩ := bind_some e4
    obtain ⟨d2, e7, e8⟩ := bind_some e5
    cases e8
    cases e6
    refine ⟨O, ρ, d1, gd, e3, fun v H1 s1 r1 => ⟨O, ρ, d2, gd.same s1, e7, fun w H2 s2 r2 => ?_⟩⟩
    cases d1 with
    | int i =>
      cases d2 with
      | int j =>
        simp only [lrgD] at e2
        split at e2
        · next hj =>
          cases e2
          refine ⟨i, j, rep_int.mp (r1.same s2), rep_int.mp r2, ⟨by omega, by omega, by omega, by omega, by omega⟩, fun l hl => q _ _ ((s1.trans s2).trans (same_upd hl)) (rep_lst ((gd.same (s1.trans s2)).otr m) hl (rep_rg i j))⟩
        · cases e2
      | _ => simp [lrgD] at e2
    | _ => simp [lrgD] at e2⟩
end
end DL

namespace DL
open PySem PySem.Spec
open PyProof.Rows hiding St
open L2
/-! ## defs with a star parameter -/
structure FnV (P : Program) (w : World) (K : PySem.W.Frag) (mg : Str → Option Value) (base : Heap) (k : Nat) (x : Str) (F : List D → Option D) : Prop where
  ex : ∃ f, FnR P w K mg base CX0 k f (spP F) ∧ mg x = some (.ref f) ∧ PySem.W.keepIn K (.ref f) = true
structure StarAt (K : PySem.W.Frag) (mg : Str → Option Value) (x : Str) (st : Stmt) (ps : List Str) (pv : Str) : Prop where
  ex : ∃ f fd, L2.Fun K x x st f fd ∧ (∀ us rest : List Value, us.length = ps.length → bindArgs fd ⟨us ++ rest, []⟩ = (newTuple rest >>= fun t => pure (ps.zip us ++ [(pv, t)]))) ∧ mg x = some (.ref f)
@[simp] def starF (n tot : Nat) (b : Rho → Option Out) : List D → Option D := fun ds => if n ≤ ds.length ∧ ds.length ≤ 100000 then runF (n + 1) tot b (ds.take n ++ [.tuple (ds.drop n)]) else none
section
variable {P : Program} {w : World} {K : PySem.W.Frag} {mg : Str → Option Value} {base : Heap}
theorem fnv_mk {x pv : Str} {st : Stmt} {f : Addr} {fd : FuncData} {N ps : List Str} {k n tot : Nat} {b : Rho → Option Out} (F : L2.Fun K x x st f fd) (S : FnScope N (ps ++ [pv]) (defScope st))
    (hbd : ∀ us rest : List Value, us.length = ps.length → bindArgs fd ⟨us ++ rest, []⟩ = (newTuple rest >>= fun t => pure (ps.zip us ++ [(pv, t)]))) (hm : mg x = some (.ref f)) (hN : N.length = tot) (hn : ps.length = n)
    (hb : ∀ (B : Base) (cdv : Value) (A : Around) (outer : List PySem.Env) (s : Shared) (H : Hp) (E : XK), Room k (A.deeper (envOfC x (defScope st) s.heap.objs.size f cdv)) → DSs (cxOf CX0 P w K mg base N x (defScope st) f cdv A outer s H E).nox B (defBody st) b) :
    FnV P w K mg base (k + 1) x (starF n tot b) := by
  have hpl : (ps ++ [pv]).length ≤ N.length := by have := congrArg List.length S.pre; rw [List.length_take] at this; omega
  rw [List.length_append, List.length_singleton] at hpl
  have kp := F.kp
  obtain ⟨oc, od, kV, doc, pm, an, cdv, ct, osl, rfl, lk, hcd⟩ := F.ex
  refine ⟨f, FnR.imp (StX.fn_star (CX := CX0) (sp := spP (runF (n + 1) tot b)) lk hcd S StX.cxUp_none hbd fun A outer s H vs Q E hr h => ?_) fun vs H Q E h => ?_, hm, kp⟩
  · obtain ⟨O, ds, d, t, r, e, q⟩ := h
    unfold runF at e
    split at e
    · next hl =>
      obtain ⟨o, e1, e2⟩ := bind_some e
      refine ⟨_, (hb ⟨H, O, fun _ => False⟩ cdv A outer s H E hr).ps.nox, O, startR tot ds, o, good_start t r hN (by omega), e1, ?_⟩
      cases o with
      | nx ρ' =>
        cases e2
        exact fun σ' H' O' s3 g3 => q _ H' (fun b o e => g3.frame b o e fun z => z) (rep_none.mpr rfl)
      | rt z ρ' =>
        cases e2
        exact fun v σ' H' O' s3 g3 r3 => q v H' (fun b o e => g3.frame b o e fun z => z) r3
    · cases e
  · obtain ⟨O, ds, d, t, r, e, q⟩ := h
    unfold starF at e
    split at e
    · next hl =>
      have hlen := r.length
      refine ⟨vs.take n, vs.drop n, (List.take_append_drop n vs).symm, by rw [List.length_take]; omega, line_le (by rw [List.length_drop]; omega), fun p hp => ?_⟩
      refine ⟨O, _, d, fun b h => (same_upd hp).ne (t b h), ?_, e, fun v H' s' r' => q v H' ((same_upd hp).trans s') r'⟩
      exact (rep_upd hp (r.take n)).append (.one (rep_tup hp (r.drop n)))
    · cases e
end
section
variable {X : Cx} {B : Base} {m : Md} {e : Expr} {es : List Expr} {gs : Rho → Option (List D)} {fs : Rho → Option (List D × Rho)} {p pos : Pos}
theorem pe_callR {CX : CXT} {k : Nat} {f : Addr} {sp : Sp} {E : XK} {x : Str} {t : TA} (F : FnR X.prog X.w X.K X.mg X.base CX k f sp) (hr : Room k X.A) (hg : Gl X x) (hm : X.mg x = some (.ref f)) (hk : PySem.W.keepIn X.K (.ref f) = true) (hx : Passes CX X E) (ha : PA X (e :: es) t) (hdb : (x == ("__debug__" : Str)) = false := by decide)
    (he : starEach (e :: es) X.env = (false, eval e X.env) :: starEach es X.env := by rfl) (hpl : (backTo pos (starEach es X.env)).any (·.1) = false := by rfl) : PE X (.Call (.Name x p) (e :: es) [] pos) (fun σ H Q => t σ H fun vs H1 => sp vs H1 Q E) := by
  refine ⟨fun pins s σ H Q I h => ?_⟩
  refine wpAny_Call_Name_kw (ld_glob I hg hm ?_ hdb)
  refine PySem.W.callWith_K (h₀ := X.base) I.ok.mod.kin hk (thn (ha.run pos pins s σ H _ I h) fun us s1 ⟨vs, H1, I1, r, q⟩ => ⟨I1.kIn, ?_⟩) he hpl
  exact wpAny_call (run_fnR F hr hx I1 r q)
theorem dp_callV {x : Str} {k j : Nat} {F : List D → Option D} (hF : FnV X.prog X.w X.K X.mg X.base k x F) (hr : Room j X.A) (hk : k ≤ j) (ha : DPA X B m (e :: es) gs) (hg : Gl X x := by rfl) (hdb : (x == ("__debug__" : Str)) = false := by decide)
    (he : starEach (e :: es) X.env = (false, eval e X.env) :: starEach es X.env := by rfl) (hpl : (backTo pos (starEach es X.env)).any (·.1) = false := by rfl) : DP X B m (.Call (.Name x p) (e :: es) [] pos) (nD gs F) := by
  obtain ⟨fa, G, hm, kp⟩ := hF.ex
  refine dp_n (t := fun t σ H Q => t σ H fun vs H1 => spP F vs H1 Q E0) (fun h => pe_callR G (hr.mono hk) hg hm kp pass0 h hdb he hpl) F (fun σ H Q O ρ ds z gd e1 e2 q => ⟨O, ρ, ds, gd, e1, fun vs H1 s1 r1 => ?_⟩) ha
  exact ⟨_, ds, z, (gd.same s1).otr m, r1, e2, fun v H2 s2 r2 => q v H2 (s1.trans s2) r2⟩
theorem de_callV {x : Str} {k j : Nat} {F : List D → Option D} (hF : FnV X.prog X.w X.K X.mg X.base k x F) (hr : Room j X.A) (hk : k ≤ j) (ha : DEA X B (e :: es) fs) (hg : Gl X x := by rfl) (hdb : (x == ("__debug__" : Str)) = false := by decide)
    (he : starEach (e :: es) X.env = (false, eval e X.env) :: starEach es X.env := by rfl) (hpl : (backTo pos (starEach es X.env)).any (·.1) = false := by rfl) : DE X B (.Call (.Name x p) (e :: es) [] pos) (nE fs F) := by
  obtain ⟨fa, G, hm, kp⟩ := hF.ex
  refine de_n (t := fun t σ H Q => t σ H fun vs H1 => spP F vs H1 Q E0) (fun h => pe_callR G (hr.mono hk) hg hm kp pass0 h hdb he hpl) F (fun σ H Q O ρ ρ' ds z gd e1 e2 q => ⟨O, ρ, ds, ρ', gd, e1, fun vs H1 s1 r1 => ?_⟩) ha
  exact ⟨_, ds, z, s1.good.otr .str, r1, e2, fun v H2 s2 r2 => q v H2 (s1.samr s2) r2⟩
end
end DL

namespace DL
open PySem PySem.Spec
open PyProof.Rows hiding St
open L2
/-! ## the set of a list of whole numbers -/
abbrev bareSet (w : World) : Obj := { cls := .type "set", dict := none, data := .set #[] 0 (.fresh 0 0 (!w.params.followText "set-order")) }
section
variable {P : Program} {w : World} {A : Around} {E : Value → Shared → Prop} {s : Shared}
theorem set_fill {l S : Addr} {items : Array Value} (ns : List Int) {h0 : Heap} {s1 : Shared} {R : Result → Shared → Prop} (hh : A.handled = none) (es : s1.heap = h0.push (bareSet w)) (eS : S = h0.objs.size) (hl : h0.IsList l items) (hit : IntsAre items.toList ns) (hb : ns.length + 1 < scanBound)
    (hR : ∀ (h' : Heap) (tk c : Nat), SetR w h' S (fun j => decide (j ∈ ns)) c → c ≤ ns.length → (∀ b o, h0.get? b = some o → h'.get? b = some o) → R (.ok (.ret .none)) { s1 with heap := h', toks := tk }) :
    codeAny (model P w) A (.builtin "set.update.loop" ⟨[.ref S, .ref (h0.objs.size + 1)], []⟩) R { s1 with heap := s1.heap.push { cls := .type "list_iterator", data := .fields #[.ref l, .int 0 0] } } := by
  subst eS
  have nn : items.size = ns.length := (Array.length_toList (xs := items)).symm.trans (IntsAre.length hit)
  obtain ⟨ob, gob, cob, kob, dob⟩ := id hl
  have ll : l < h0.objs.size := Heap.lt_size gob
  have sz1 : s1.heap.objs.size = h0.objs.size + 1 := by rw [es]; exact Heap.size_push ..
  have gS : s1.heap.get? h0.objs.size = some (bareSet w) := by rw [es]; exact Heap.get?_push_size _ rfl
  have up : ∀ b o, h0.get? b = some o → s1.heap.get? b = some o := fun b o e => by rw [es]; exact Heap.get?_push_of_some _ e
  have hl1 : s1.heap.IsList l items := ⟨ob, up _ _ gob, cob, kob, dob⟩
  have nin : h0.objs.size ∉ [h0.objs.size + 1, l] := fun z => by
    rcases List.mem_cons.mp z with e | e
    · exact Nat.ne_of_lt (Nat.lt_succ_self _) e
    · rcases List.mem_cons.mp e with e | e
      · exact Nat.lt_irrefl _ (e ▸ ll)
      · cases e
  have at_ : ∀ (i : Nat) (v : Value), items[i]? = some v → ∃ k t, ns[i]? = some k ∧ v = .int k t := fun i v e => by
    have hi : i < ns.length := nn ▸ (Array.getElem?_eq_some_iff.mp e).1
    obtain ⟨t, q⟩ := IntsAre.int_at hit i v ((Array.getElem?_toList).trans e)
    exact ⟨ns[i], t, List.getElem?_eq_getElem hi, by rw [q, List.getD_eq_getElem?_getD, List.getElem?_eq_getElem hi]; rfl⟩
  rw [← sz1]
  refine set_update_ints ((Walks.list (by simp [hh]) s1.heap.objs.size l (by rw [sz1]; exact Nat.ne_of_lt (Nat.lt_succ_of_lt ll)) items).toS) h0.objs.size (by rw [sz1]; exact nin) ns nn hb at_ items.size 0 _ (by omega) (Nat.zero_le _) ⟨⟨_, Heap.get?_push_size _ rfl, rfl, rfl⟩, hl1.push _⟩ ⟨0, Nat.le_refl 0, setR_new_at (Heap.get?_push_of_some _ gS)⟩ fun s' c mv le r => ?_
  obtain ⟨h', g, d, tk, os⟩ := s'
  obtain rfl : g = s1.gens := mv.gens
  obtain rfl : d = s1.drawn := mv.drawn
  obtain rfl : os = s1.os := mv.os
  refine hR h' tk c r (nn ▸ le) fun b o e => mv.heap b o ?_ (Heap.get?_push_of_some _ (up b o e))
  have bl := Heap.lt_size e
  rw [sz1]
  intro z
  rcases List.mem_cons.mp z with q | q
  · exact Nat.lt_irrefl _ (q ▸ bl)
  · rcases List.mem_cons.mp q with q | q
    · exact Nat.lt_irrefl _ (Nat.lt_of_succ_lt (q ▸ bl))
    · cases q
theorem call_setL {l : Addr} {items : Array Value} (ns : List Int) {Q : Value → Shared → Prop} (hh : A.handled = none) (hl : s.heap.IsList l items) (hit : IntsAre items.toList ns) (hb : ns.length + 1 < scanBound)
    (h : ∀ (h' : Heap) (tk c : Nat), SetR w h' s.heap.objs.size (fun j => decide (j ∈ ns)) c → c ≤ ns.length → (∀ b o, s.heap.get? b = some o → h'.get? b = some o) → Q (.ref s.heap.objs.size) { s with heap := h', toks := tk }) : wpAny (model P w) A (call (.type "set") [.ref l]) Q E s := by
  obtain ⟨mc, mt, mm⟩ := F.called_set.mro
  have ma := F.called_set.made; have su := F.called_set.sub
  refine wpAny_call (codeAny_of_tree (wpAny_pure (a := _) ⟨Code.quiet_builtin _ (by decide +kernel), codeAny_builtin F.entry_type_call ?_⟩))
  rw [Around.under_plain (weight_type_call_type "set" [.ref l] []) rfl]
  have n1 := F.called_set.notType; have n2 := F.called_set.canCreate; have n3 := F.typeCall_set_1 (.ref l)
  repeat (any_goals (first | assumption | wp_step))
  refine codeAny_mono (code_set_led1 (.ref l) (E := E) (Q₁ := fun x y => x = .ref s.heap.objs.size ∧ y = { s with heap := s.heap.push (bareSet w) }) ⟨rfl, rfl⟩) fun r y hr => ?_
  cases r with
  | error e => exact hr
  | ok fl =>
    cases fl with
    | brk => exact hr.elim
    | cont => exact hr.elim
    | next => exact hr.elim
    | ret obj =>
      obtain ⟨rfl, rfl⟩ := hr
      have gS : (s.heap.push (bareSet w)).get? s.heap.objs.size = some (bareSet w) := Heap.get?_push_size _ rfl
      have tS : Shared.TypeIs { s with heap := s.heap.push (bareSet w) } (.ref s.heap.objs.size) "set" := ⟨_, gS, rfl⟩
      have i1 := F.called_set.init.lookup; have i2 := F.called_set.init.bind (.ref s.heap.objs.size)
      repeat (any_goals (first | assumption | wp_step))
      refine codeAny_mono (codeAny_call_builtin (R := wants (fun r z => r = .none ∧ ∃ h' tk c, z = { s with heap := h', toks := tk } ∧ SetR w h' s.heap.objs.size (fun j => decide (j ∈ ns)) c ∧ c ≤ ns.length ∧ ∀ b o, s.heap.get? b = some o → h'.get? b = some o) E) F.called_set.init.plain F.entry_set_init (check_set_init_1 tS ?_)) fun r z hz => ?_
      · have hl0 := hl
        obtain ⟨⟨cl, dd, dt, sl⟩, go, hc, kn, hd⟩ := hl
        simp only at hc hd
        subst hc hd
        have go' : (s.heap.push (bareSet w)).get? l = some { cls := .type "list", dict := dd, data := .seq items kn, slots := sl } := Heap.get?_push_of_some _ go
        have q1 := F.sub_list_set; have q2 := F.sub_list_frozenset
        have q3 : (Value.type "list" == Value.type "dict") = false := by decide
        unfold Builtin.«set.__init__» noKeywords Builtin.Frozenset.updateFrom
        generalize hP : pyIter = PI
        wp_walk
        subst hP
        refine wpAny_pyIter_list ⟨_, go', rfl, kn, rfl⟩ (wpAny_bind (wpAny_runValue ?_))
        have e1 : (s.heap.push (bareSet w)).objs.size = s.heap.objs.size + 1 := Heap.size_push ..
        rw [e1]
        refine set_fill (s1 := { s with heap := s.heap.push (bareSet w) }) ns (by simp [hh]) rfl rfl hl0 hit hb fun h' tk c r le kp => ?_
        show wpAny _ _ _ _ _ _
        refine wpAny_pure ?_
        show wpAny _ _ (ret Value.none) _ _ _
        exact wpAny_pure ⟨rfl, h', tk, c, rfl, r, le, kp⟩
      · cases r with
        | error e => exact hz
        | ok f2 =>
          cases f2 with
          | ret r =>
            obtain ⟨rfl, h', tk, c, rfl, r, le, kp⟩ := hz
            repeat (any_goals (first | assumption | wp_step))
            exact h h' tk c r le kp
          | brk => exact hz.elim
          | cont => exact hz.elim
          | next => exact hz.elim
end
end DL

namespace DL
open PySem PySem.Spec
open PyProof.Rows hiding St
open L2
/-! ## sorted(set(xs)) -/
def insU (n : Int) : List Int → List Int
  | [] => [n]
  | m :: ms => if n < m then n :: m :: ms else if n = m then m :: ms else m :: insU n ms
def sortU : List Int → List Int
  | [] => []
  | n :: ns => insU n (sortU ns)
theorem insU_mem (n k : Int) : ∀ ms : List Int, k ∈ insU n ms ↔ k = n ∨ k ∈ ms
  | [] => by simp [insU]
  | m :: ms => by
    unfold insU
    split
    · simp
    · split
      · next h => subst h; simp
      · rw [List.mem_cons, insU_mem n k ms, List.mem_cons]
        constructor
        · rintro (h | h | h)
          · exact .inr (.inl h)
          · exact .inl h
          · exact .inr (.inr h)
        · rintro (h | h | h)
          · exact .inr (.inl h)
          · exact .inl h
          · exact .inr (.inr h)
theorem sortU_mem (k : Int) : ∀ ns : List Int, k ∈ sortU ns ↔ k ∈ ns
  | [] => by simp [sortU]
  | n :: ns => by rw [sortU, insU_mem, sortU_mem k ns, List.mem_cons]
theorem insU_lt (n : Int) : ∀ ms : List Int, ms.Pairwise (· < ·) → (insU n ms).Pairwise (· < ·)
  | [], _ => by simp [insU]
  | m :: ms, h => by
    have h' := List.pairwise_cons.mp h
    unfold insU
    split
    · next q =>
      refine List.pairwise_cons.mpr ⟨fun k hk => ?_, h⟩
      rcases List.mem_cons.mp hk with rfl | hk
      · exact q
      · have := h'.1 k hk; omega
    · split
      · exact h
      · refine List.pairwise_cons.mpr ⟨fun k hk => ?_, insU_lt n ms h'.2⟩
        rcases (insU_mem n k ms).mp hk with rfl | hk
        · omega
        · exact h'.1 k hk
theorem sortU_lt : ∀ ns : List Int, (sortU ns).Pairwise (· < ·)
  | [] => .nil
  | n :: ns => insU_lt n _ (sortU_lt ns)
theorem strict_uniq : ∀ {xs ys : List Int}, xs.Pairwise (· < ·) → ys.Pairwise (· < ·) → (∀ k, k ∈ xs ↔ k ∈ ys) → xs = ys
  | [], [], _, _, _ => rfl
  | [], y :: ys, _, _, h => absurd ((h y).mpr (by simp)) (by simp)
  | x :: xs, [], _, _, h => absurd ((h x).mp (by simp)) (by simp)
  | x :: xs, y :: ys, hx, hy, h => by
    have hx' := List.pairwise_cons.mp hx
    have hy' := List.pairwise_cons.mp hy
    have e : x = y := by
      rcases List.mem_cons.mp ((h x).mp (by simp)) with e | e
      · exact e
      · rcases List.mem_cons.mp ((h y).mpr (by simp)) with e2 | e2
        · exact e2.symm
        · have := hx'.1 y e2; have := hy'.1 x e; omega
    subst e
    congr 1
    refine strict_uniq hx'.2 hy'.2 fun k => ?_
    constructor
    · intro hk
      rcases List.mem_cons.mp ((h k).mp (by simp [hk])) with e | e
      · have := hx'.1 k hk; omega
      · exact e
    · intro hk
      rcases List.mem_cons.mp ((h k).mpr (by simp [hk])) with e | e
      · have := hy'.1 k hk; omega
      · exact e
theorem nodup_len : ∀ {xs ys : List Int}, xs.Nodup → (∀ k ∈ xs, k ∈ ys) → xs.length ≤ ys.length
  | [], _, _, _ => Nat.zero_le _
  | x :: xs, ys, hx, h => by
    have hx' := List.nodup_cons.mp hx
    have hm : x ∈ ys := h x (by simp)
    have ih := nodup_len (ys := ys.erase x) hx'.2 fun k hk => by
      have hne : k ≠ x := fun z => hx'.1 (z ▸ hk)
      exact (List.mem_erase_of_ne hne).mpr (h k (by simp [hk]))
    have hl := List.length_erase_of_mem hm
    have hp : 0 < ys.length := List.length_pos_of_mem hm
    simp only [List.length_cons]
    omega
theorem setR_len {w : World} {h : Heap} {a : Addr} {ns : List Int} {c : Nat} (R : SetR w h a (fun j => decide (j ∈ ns)) c) : c ≤ (sortU ns).length := by
  obtain ⟨o, es, ep, t, ho, hex, hd, g, nd, hm, hb, hf, hn, hr⟩ := R
  have := nodup_len (ys := sortU ns) nd fun k hk => (sortU_mem k ns).mpr (of_decide_eq_true ((hm k).mpr hk))
  rw [List.length_map, Array.length_toList] at this
  omega
@[simp] def ssetD : List D → Option D
  | [.list ds] => (intsOf ds).bind fun ns => if ns.length ≤ 1000 ∧ (sortU ns).length < 64 then some (.list (intsD (sortU ns))) else none
  | _ => none
def tSsL (K : PySem.W.Frag) (ta : TE) : TE := fun σ H Q => ta σ H fun x H1 => ∃ (l : Addr) (ns : List Int), x = .ref l ∧ SqL K H1 l (ns.map V.int) ∧ ns.length ≤ 1000 ∧ (sortU ns).length < 64 ∧ ∀ p, H1 p = none → Q (.ref p) (upd H1 p (.lst ((sortU ns).map V.int)))
section
variable {X : Cx} {B : Base} {m : Md} {a : Expr} {ta : TE} {ga : Rho → Option D} {p p2 q pos : Pos}
theorem pe_ssetL (hc : X.calm = true) (hm : X.mg "sorted" = none) (hm2 : X.mg "set" = none) (ha : PE X a ta) (hg : Gl X "sorted" := by rfl) (hg2 : Gl X "set" := by rfl) (na : starEach [a] X.env = (false, eval a X.env) :: starEach [] X.env := by rfl)
    (nl : starEach [Expr.Call (.Name "set" p2) [a] [] q] X.env = (false, eval (.Call (.Name "set" p2) [a] [] q) X.env) :: starEach [] X.env := by rfl) : PE X (.Call (.Name "sorted" p) [.Call (.Name "set" p2) [a] [] q] [] pos) (tSsL X.K ta) := by
  refine ⟨fun pins s σ H Q I h => ?_⟩
  have inner : wpAny (model X.prog X.w) X.A (eval (.Call (.Name "set" p2) [a] [] q) X.env) (fun v s1 => ∃ (S : Addr) (ns : List Int) (c : Nat) (H1 : Hp), v = .ref S ∧ Inv X pins σ H1 s1 ∧ SetR X.w s1.heap S (fun j => decide (j ∈ ns)) c ∧ (sortU ns).length < 64 ∧
      ∀ p, H1 p = none → Q (.ref p) (upd H1 p (.lst ((sortU ns).map V.int)))) X.xe s := by
    refine Call_ (ld_blt I hg2 hm2 boot_set (PyProof.Rows.callWith_type1 (one_arg ha I h (fun v s2 x H2 I2 r z => ?_) na) na))
    obtain ⟨l, ns, rfl, hs, h1, h2, z⟩ := z
    obtain ⟨its, rv, hl, hz⟩ := I2.list hs
    cases r
    refine call_setL ns (I2.ok.hd hc) hl.isList rv.ints (by unfold scanBound; omega) fun h' tk c R le kp => ?_
    exact ⟨_, ns, c, H2, rfl, I2.kept kp, R, h2, z⟩
  refine wpAny_Call_Name_kw (ld_blt I hg hm boot_sorted (PyProof.Rows.callWith_builtin1 (args_cons (thn inner fun v s1 ⟨S, ns, c, H1, ev, I1, R, h64, z⟩ => args_nil ?_) nl) nl))
  subst ev
  have hlen := setR_len R
  refine sorted_set R (I1.ok.hd hc) (by omega) fun s' p out c' ns' k g o hp hgp hi hs hmem hl => ?_
  have e : ns' = sortU ns := strict_uniq hs (sortU_lt ns) fun k => by rw [hmem k, sortU_mem]; exact decide_eq_true_iff
  subst e
  have hz : ((sortU ns).map V.int).length ≤ sizeLine := by rw [List.length_map, sizeLine_eq]; omega
  have hn : H1 p = none := I1.hok.fresh hp
  have J : Inv X pins σ (upd H1 p (.lst ((sortU ns).map V.int))) { s1 with heap := s'.heap, gens := s'.gens, drawn := s'.drawn, toks := s'.toks } :=
    I1.call (ch := []) (Un.laid k hp hn) (I1.hok.laid k hp ⟨hz, out.toList, c', vals_of_ints hi, hgp⟩) (by rw [g]; exact I1.bare) (fun _ z => nomatch z)
  have e2 : s' = { s1 with heap := s'.heap, gens := s'.gens, drawn := s'.drawn, toks := s'.toks } := by
    cases s'; cases s1; cases o; rfl
  rw [e2]
  exact ⟨.ref p, _, J, rfl, z p hn⟩
theorem dp_sset (hc : X.calm = true) (hm : X.mg "sorted" = none) (hm2 : X.mg "set" = none) (ha : DP X B m a ga) (hg : Gl X "sorted" := by rfl) (hg2 : Gl X "set" := by rfl) (na : starEach [a] X.env = (false, eval a X.env) :: starEach [] X.env := by rfl)
    (nl : starEach [Expr.Call (.Name "set" p2) [a] [] q] X.env = (false, eval (.Call (.Name "set" p2) [a] [] q) X.env) :: starEach [] X.env := by rfl) : DP X B m (.Call (.Name "sorted" p) [.Call (.Name "set" p2) [a] [] q] [] pos) (nD (consA ga nilA) ssetD) :=
  ⟨(pe_ssetL hc hm hm2 ha.pe hg hg2 na nl).imp fun σ H Q ⟨O, ρ, d, gd, e, z⟩ => by
    obtain ⟨ds, e1, e2⟩ := bind_some e
    obtain ⟨d1, e3, e4⟩ := bind_some e1
    cases e4
    refine ⟨O, ρ, d1, gd, e3, fun v H1 s1 r1 => ?_⟩
    cases d1 with
    | list ds =>
      obtain ⟨ns, e5, e6⟩ := bind_some e2
      split at e6
      · next hj =>
        cases e6
        simp only [Rep] at r1
        obtain ⟨l, vs, rfl, _, hl, r⟩ := r1
        cases ints_rep r e5
        exact ⟨l, ns, rfl, .of hl, hj.1, hj.2, fun p hp => z _ _ (s1.trans (same_upd hp)) (rep_lst ((gd.same s1).otr m) hp (rep_intsD _))⟩
      · cases e6
    | _ => cases e2⟩
end
end DL

set_option autoImplicit false
namespace DL
open PySem PySem.Spec
open PyProof.Rows hiding St
open L2
/-! ## sorted(xs): xs a list of tuples of ints, or a tuple of ints -/
def tupI (r : List Int) : D := .tuple (intsD r)
def rowsOf : List D → Option (List (List Int))
  | [] => some []
  | .tuple xs :: ds => (intsOf xs).bind fun r => (rowsOf ds).bind fun rs => some (r :: rs)
  | _ => none
theorem intsOf_eq : ∀ {ds : List D} {ns : List Int}, intsOf ds = some ns → ds = intsD ns
  | [], ns, h => by simp only [intsOf] at h; cases h; rfl
  | .int b :: ds, ns, h => by
    simp only [intsOf] at h
    obtain ⟨bs, e1, e2⟩ := bind_some h
    cases e2
    rw [intsOf_eq e1]
    rfl
  | .none :: _, _, h => by simp [intsOf] at h
  | .bool _ :: _, _, h => by simp [intsOf] at h
  | .str _ :: _, _, h => by simp [intsOf] at h
  | .list _ :: _, _, h => by simp [intsOf] at h
  | .tuple _ :: _, _, h => by simp [intsOf] at h
  | .dict _ :: _, _, h => by simp [intsOf] at h
theorem rowsOf_eq : ∀ {ds : List D} {rs : List (List Int)}, rowsOf ds = some rs → ds = rs.map tupI
  | [], rs, h => by simp only [rowsOf] at h; cases h; rfl
  | .tuple xs :: ds, rs, h => by
    simp only [rowsOf] at h
    obtain ⟨r, e1, e'⟩ := bind_some h
    obtain ⟨rs', e2, e3⟩ := bind_some e'
    cases e3
    rw [intsOf_eq e1, rowsOf_eq e2]
    rfl
  | .none :: _, _, h => by simp [rowsOf] at h
  | .bool _ :: _, _, h => by simp [rowsOf] at h
  | .str _ :: _, _, h => by simp [rowsOf] at h
  | .list _ :: _, _, h => by simp [rowsOf] at h
  | .int _ :: _, _, h => by simp [rowsOf] at h
  | .dict _ :: _, _, h => by simp [rowsOf] at h
@[simp] theorem rowsOf_rows : ∀ rs : List (List Int), rowsOf (rs.map tupI) = some rs
  | [] => rfl
  | r :: rs => by
    rw [List.map_cons]
    show ((intsOf (intsD r)).bind fun r => (rowsOf (rs.map tupI)).bind fun rs => some (r :: rs)) = _
    rw [intsOf_intsD, rowsOf_rows rs]
    rfl
@[simp] def sortTD : List D → Option D
  | [.list ds] => (rowsOf ds).bind fun rs => if (rs.all fun r => !r.isEmpty) = true ∧ rs.length ≤ 100000 then some (.list ((rs.mergeSort (PySem.W.dataLe false tupI)).map tupI)) else none
  | [.tuple ds] => (intsOf ds).bind fun ns => if ns.length ≤ 100000 then some (.list (intsD (ns.mergeSort (PySem.W.dataLe false PyData.int)))) else none
  | _ => none
def rSortT (K : PySem.W.Frag) : List V → Hp → VK → Prop := fun vs H Q =>
  (∃ (a : Addr) (xs : List V) (rs : List (List Int)) (O : Addr → Prop), vs = [V.ref a] ∧ SqL K H a xs ∧ RepL O H (rs.map tupI) xs ∧ (∀ r ∈ rs, r ≠ []) ∧ rs.length ≤ 100000 ∧
    ∀ (ys : List V) (p : Addr), H p = none → RepL O H ((rs.mergeSort (PySem.W.dataLe false tupI)).map tupI) ys → Q (.ref p) (upd H p (.lst ys))) ∨
  (∃ (a : Addr) (ns : List Int), vs = [V.ref a] ∧ SqT K H a (ns.map V.int) ∧ ns.length ≤ 100000 ∧
    ∀ (p : Addr), H p = none → Q (.ref p) (upd H p (.lst ((ns.mergeSort (PySem.W.dataLe false PyData.int)).map V.int))))
theorem each_rep {O : Addr → Prop} {H : Hp} : ∀ {rs : List (List Int)} {xs : List V} {us : List Value}, RepL O H (rs.map tupI) xs → Vals xs us → PySem.W.EachIs (fun u r => ∃ v, RelV v u ∧ Rep O H (tupI r) v) us rs
  | [], xs, us, h, r => by
    rw [List.map_nil] at h
    simp only [RepL] at h
    subst h
    cases r
    exact .nil
  | q :: rs, xs, us, h, r => by
    rw [List.map_cons] at h
    simp only [RepL] at h
    obtain ⟨v, ws, rfl, r1, r2⟩ := h
    cases r with
    | cons h t => exact .cons ⟨v, h, r1⟩ (each_rep r2 t)
theorem rep_each {O : Addr → Prop} {H : Hp} : ∀ {rs : List (List Int)} {us : List Value}, PySem.W.EachIs (fun u r => ∃ v, RelV v u ∧ Rep O H (tupI r) v) us rs → ∃ ys, Vals ys us ∧ RepL O H (rs.map tupI) ys
  | _, _, .nil => ⟨[], .nil, .nil⟩
  | _, _, .cons ⟨v, h1, h2⟩ t => by
    obtain ⟨ys, r1, r2⟩ := rep_each t
    exact ⟨v :: ys, .cons h1 r1, RepL.cons h2 r2⟩
theorem each_int : ∀ {ns : List Int} {us : List Value}, Vals (ns.map V.int) us → PySem.W.EachIs (fun u n => ∃ t, u = Value.int n t) us ns
  | [], us, r => by cases r; exact .nil
  | n :: ns, us, r => by
    cases r with
    | cons h t => exact .cons h (each_int t)
theorem int_each : ∀ {ns : List Int} {us : List Value}, PySem.W.EachIs (fun u n => ∃ t, u = Value.int n t) us ns → Vals (ns.map V.int) us
  | _, _, .nil => .nil
  | _, _, .cons h t => .cons h (int_each t)
theorem depth_tupI (r : List Int) : (tupI r).depth ≤ 1 := (shp_tup (shp_ints r)).2
section
variable {X : Cx}
theorem cr_sortT (hu : X.A.units + 64 < cLine) : CallR X (.builtin "sorted") (rSortT X.K) := by
  intro pins s σ H vs us Q I r h
  rcases h with ⟨a, xs, rs, O, rfl, hs, hr, hne, hz, q⟩ | ⟨a, ns, rfl, hs, hz, q⟩
  · obtain ⟨its, rv, hl, _⟩ := I.list hs
    rw [Vals.ref1 r]
    have e := each_rep hr rv
    have hlen : its.length = rs.length := e.length
    refine PySem.W.sorted_data (enc := tupI) hl.isList e (e.mono fun u b ⟨v, h1, h2⟩ => Dp.reads I _ _ _ (Rep.dp h2) h1) (PySem.W.AllAlike.of fun b b' => ?_) (.inl fun d hd => ?_) (line_le hz) (fun b _ => ?_) fun out ho eo => ?_
    · show PySem.W.alike (.tuple (intsD b)) (.tuple (intsD b')) = true
      rw [PySem.W.alike]
      exact PySem.W.alike_ints b b'
    · obtain ⟨b, hb, rfl⟩ := List.mem_map.mp hd
      cases b with
      | nil => exact absurd rfl (hne _ hb)
      | cons x b => exact ⟨_, _, rfl⟩
    · have := depth_tupI b; omega
    · obtain ⟨ys, r1, r2⟩ := rep_each eo
      obtain ⟨ep, he'⟩ := PyProof.Rows.sortedAll_at s.heap its out.toArray
      have hyl : ys.length ≤ sizeLine := by rw [r1.length, ho]; exact line_le hz
      exact ⟨.ref _, upd H (s.heap.objs.size + 1) (.lst ys), I.laid (t' := s.toks) (fun _ _ => PyProof.Rows.sortedAll_old) (Nat.le_succ _) ⟨hyl, out, ep, r1, he'⟩, rfl, q ys _ (I.hok.fresh (Nat.le_succ _)) r2⟩
  · obtain ⟨its, rv, ⟨o, ho, hc, n, hd⟩, _⟩ := I.tuple hs
    rw [Vals.ref1 r]
    have hlen : its.length = ns.length := by rw [← rv.length, List.length_map]
    refine PySem.Calls.call_function_entry kind_sorted plain_sorted entry_sorted (args_sorted1 _) ?_
    unfold Builtin.«sorted»
    refine wpAny_bind (m := checkCount "sorted" 1 1 _) (wpAny_pure ?_)
    refine wpAny_bind (wpAny_collect_seq a (.inr rfl) ho hc hd (fun h' hk => ?_) (by rw [List.size_toArray, hlen]; exact line_le hz))
    have ei : its.toArray.toList = its := by simp
    rw [ei]
    refine wpAny_bind (wpAny_newList ?_ (by rw [hlen]; exact line_le hz))
    have I' : Inv X pins σ H { s with heap := h', toks := s.toks } := I.kept (t' := s.toks) hk
    have e := each_int rv
    have hob : (h'.push { cls := .type "list", data := .seq its.toArray }).get? h'.objs.size = some (seqObj "list" its.toArray 0) := Heap.get?_push_size _ rfl
    refine wpAny_bind (wpAny_holding (wpAny_mono (PySem.W.list_sort_data (s := { s with heap := h'.push { cls := .type "list", data := .seq its.toArray } }) (enc := PyData.int) (Q := fun _ s' => EP X pins σ Q (.ref h'.objs.size) s') hob e (e.mono fun u b ⟨t, h1⟩ => ⟨_, h1 ▸ Reads.int b t, by simp⟩) (PySem.W.AllAlike.of fun b b' => by simp [PySem.W.alike]) (PySem.W.Sortable.others fun b => ⟨by simp, fun xs => by simp⟩) (line_le hz) (fun b _ => ?_) fun out hol eo => ?_) (fun _ s' x => ?_) fun _ _ e => e))
    · have : (PyData.int b).depth = 0 := by simp [PyData.depth]
      rw [this]
      show X.A.units + 1 + 1 + 0 < cLine
      omega
    · have r1 := int_each eo
      obtain ⟨ep, he'⟩ := PyProof.Rows.sortedHeap_at (out := out.toArray) hob
      have hyl : ((ns.mergeSort (PySem.W.dataLe false PyData.int)).map V.int).length ≤ sizeLine := by rw [List.length_map, List.length_mergeSort]; exact line_le hz
      exact ⟨.ref _, upd H h'.objs.size (.lst ((ns.mergeSort (PySem.W.dataLe false PyData.int)).map V.int)), I'.laid (t' := s.toks) (fun b u hb => by
        have hlt := Heap.lt_size hb
        rw [PyProof.Rows.sortedHeap_old (Nat.ne_of_lt hlt) (by rw [size_push']; exact Nat.lt_succ_of_lt hlt)]
        exact Heap.get?_push_of_some _ hb) (Nat.le_refl _) ⟨hyl, out, ep, r1, he'⟩, rfl, q _ (I'.hok.fresh (Nat.le_refl _))⟩
    · exact wpAny_pure ⟨_, rfl, x⟩
theorem n_sortT {K : PySem.W.Frag} : OpN (rSortT K) sortTD := by
  intro O H ds z xs Q t hf rx q
  unfold sortTD at hf
  split at hf
  · obtain ⟨rs, e1, e2⟩ := bind_some hf
    split at e2
    · next hj =>
      cases e2
      obtain ⟨v, rfl, r⟩ := repL_one rx
      simp only [Rep] at r
      obtain ⟨a, vs, rfl, _, ha, r⟩ := r
      rw [rowsOf_eq e1] at r
      refine .inl ⟨a, vs, rs, O, rfl, .of ha, r, fun r hr z => ?_, hj.2, fun ys p hn hy => q _ _ (same_upd hn) (rep_lst t hn hy)⟩
      have := List.all_eq_true.mp hj.1 r hr
      rw [z] at this
      cases this
    · cases e2
  · obtain ⟨ns, e1, e2⟩ := bind_some hf
    split at e2
    · next hj =>
      cases e2
      obtain ⟨v, rfl, r⟩ := repL_one rx
      simp only [Rep] at r
      obtain ⟨a, vs, rfl, ha, r⟩ := r
      cases ints_rep r e1
      exact .inr ⟨a, ns, rfl, .of ha, hj, fun p hn => q _ _ (same_upd hn) (rep_lst t hn (rep_intsD _))⟩
    · cases e2
  · cases hf
end
end DL

set_option autoImplicit false
namespace DL
open PySem PySem.Spec
open PyProof.Rows hiding St
open L2
/-! ## a op1 b op2 c op3 d, asked -/
def tChain3 (r r' r'' : R2) (ta tb tc td : TE) : TE := fun σ H Q => ta σ H fun x H1 => tb σ H1 fun y H2 => r x y H2 fun z H3 => ∃ k, z = .bl k ∧
  (if k = true then tc σ H3 fun w' H4 => r' y w' H4 fun z' H5 => ∃ k', z' = .bl k' ∧ (if k' = true then td σ H5 fun u H6 => r'' w' u H6 Q else Q (.bl false) H5) else Q (.bl false) H3)
@[simp] def ch3D (f1 f2 f3 : D → D → Option D) (ga gb gc gd : Rho → Option D) : Rho → Option D := fun ρ => (ga ρ).bind fun a => (gb ρ).bind fun b => (f1 a b).bind fun r => (asBool r).bind fun c => if c = true then
  (gc ρ).bind fun d => (f2 b d).bind fun r2 => (asBool r2).bind fun c2 => if c2 = true then (gd ρ).bind fun e => f3 d e else some (.bool false) else some (.bool false)
section
variable {X : Cx} {B : Base} {m : Md} {a b c d : Expr} {ta tb tc td : TE} {ga gb gc gd : Rho → Option D} {pos : Pos}
theorem pt_chain3 {op op' op'' : CmpOp} {r r' r'' : R2} (ho : OpR X (compareOp op) r) (ho' : OpR X (compareOp op') r') (ho'' : OpR X (compareOp op'') r'') (ha : PE X a ta) (hb : PE X b tb) (hc : PE X c tc) (hd : PE X d td)
    (hm : lastMarks [op, op', op''] [b, c, d] = false := by with_unfolding_all rfl) : PT X (.Compare a [op, op', op''] [b, c, d] pos) (tTest (tChain3 r r' r'' ta tb tc td)) := by
  refine ⟨fun pins s σ H Q I h => ?_⟩
  refine isTrue_chain (thn (ha.run pins s σ H _ I h) fun v s1 ⟨x, H1, I1, r1, q1⟩ => test_link (thn (hb.run pins s1 σ H1 _ I1 q1) fun u s2 ⟨y, H2, I2, r2, q2⟩ =>
    thn (ho pins s2 σ H2 x y v u _ I2 r1 r2 q2) fun d s3 ⟨z, H3, I3, r3, k, e, q3⟩ => ?_)) hm
  subst e
  cases r3
  refine wpAny_truthy_bool ?_
  cases k with
  | false =>
    obtain ⟨k', e', q'⟩ := q3
    cases e'
    exact ite_ff ⟨H3, I3, q'⟩
  | true =>
    refine ite_tt (test_link (thn (hc.run pins s3 σ H3 _ I3 q3) fun w' s4 ⟨z', H4, I4, r4, q4⟩ => thn (ho' pins s4 σ H4 y z' u w' _ I4 r2 r4 q4) fun d2 s5 ⟨z2, H5, I5, r5, k2, e2, q5⟩ => ?_))
    subst e2
    cases r5
    refine wpAny_truthy_bool ?_
    cases k2 with
    | false =>
      obtain ⟨k', e', q'⟩ := q5
      cases e'
      exact ite_ff ⟨H5, I5, q'⟩
    | true =>
      refine ite_tt (test_last (thn (hd.run pins s5 σ H5 _ I5 q5) fun w2 s6 ⟨z6, H6, I6, r6, q6⟩ => thn (ho'' pins s6 σ H6 z' z6 w' w2 _ I6 r4 r6 q6) fun c' s7 ⟨z7, H7, I7, r7, k', e7, q7⟩ => ?_))
      subst e7
      cases r7
      exact wpAny_truthy_bool ⟨H7, I7, q7⟩
theorem ch3_imp {r r' r'' : R2} {F F' F'' : D → D → Option D} (hf : Op2 r F) (hf' : Op2 r' F') (hf'' : Op2 r'' F'') {σ : St} {H : Hp} {Q : VK} (h : tP B m (ch3D F F' F'' ga gb gc gd) σ H Q) : tChain3 r r' r'' (tP B m ga) (tP B m gb) (tP B m gc) (tP B m gd) σ H Q := by
  obtain ⟨O, ρ, z, gg, e, q⟩ := h
  obtain ⟨d1, e1, e'⟩ := bind_some e
  obtain ⟨d2, e2, e3⟩ := bind_some e'
  obtain ⟨d3, e3, e4⟩ := bind_some e3
  obtain ⟨k, e5, e6⟩ := bind_some e4
  cases asBool_some e5
  refine ⟨O, ρ, d1, gg, e1, fun v H1 s1 r1 => ⟨O, ρ, d2, gg.same s1, e2, fun w H2 s2 r2 => ?_⟩⟩
  refine hf _ H2 d1 d2 _ v w _ ((gg.same (s1.trans s2)).otr m) e3 (r1.same s2) r2 fun u H3 s3 r3 => ⟨k, rep_bool.mp r3, ?_⟩
  cases k with
  | false =>
    cases e6
    exact q _ H3 ((s1.trans s2).trans s3) (rep_bool.mpr rfl)
  | true =>
    obtain ⟨d4, e7, e8⟩ := bind_some e6
    obtain ⟨d5, e9, e10⟩ := bind_some e8
    obtain ⟨k2, e11, e12⟩ := bind_some e10
    cases asBool_some e11
    have s13 := (s1.trans s2).trans s3
    refine ⟨O, ρ, d4, gg.same s13, e7, fun y H4 s4 r4 => ?_⟩
    refine hf' _ H4 d2 d4 _ w y _ ((gg.same (s13.trans s4)).otr m) e9 ((r2.same s3).same s4) r4 fun u H5 s5 r5 => ⟨k2, rep_bool.mp r5, ?_⟩
    have s15 := (s13.trans s4).trans s5
    cases k2 with
    | false =>
      cases e12
      exact q _ H5 s15 (rep_bool.mpr rfl)
    | true =>
      obtain ⟨d6, e13, e14⟩ := bind_some e12
      refine ⟨O, ρ, d6, gg.same s15, e13, fun x H6 s6 r6 => ?_⟩
      exact hf'' _ H6 d4 d6 z y x Q ((gg.same (s15.trans s6)).otr m) e14 ((r4.same s5).same s6) r6 fun u H7 s7 r7 => q u H7 ((s15.trans s6).trans s7) r7
theorem dt_chain3 {op op' op'' : CmpOp} {r r' r'' : R2} {F F' F'' : D → D → Option D} (ho : OpR X (compareOp op) r) (hf : Op2 r F) (ho' : OpR X (compareOp op') r') (hf' : Op2 r' F') (ho'' : OpR X (compareOp op'') r'') (hf'' : Op2 r'' F'') (ha : DP X B m a ga) (hb : DP X B m b gb) (hc : DP X B m c gc) (hd : DP X B m d gd)
    (h1 : lastMarks [op, op', op''] [b, c, d] = false := by with_unfolding_all rfl) : DPT X B (.Compare a [op, op', op''] [b, c, d] pos) (tstD (ch3D F F' F'' ga gb gc gd)) :=
  ⟨(pt_chain3 ho ho' ho'' ha.pe hb.pe hc.pe hd.pe h1).imp fun σ H Q ⟨O, ρ, k, gg, e, q⟩ => by
    obtain ⟨d, e0, ek⟩ := bind_some e
    cases asBool_some ek
    exact ch3_imp hf hf' hf'' ⟨O, ρ, _, gg, e0, fun v H1 s1 r1 => ⟨k, rep_bool.mp r1, q H1 s1⟩⟩⟩
end
end DL

set_option autoImplicit false
namespace DL
open PySem PySem.Spec
open PyProof.Rows hiding St
open L2
/-! ## xs.count(e), xs.remove(e), lists of whole numbers -/
@[simp] def lcountD : D → D → Option D
  | .list ds, .int k => (intsOf ds).bind fun ns => some (.int (ns.count k : Nat))
  | _, _ => none
@[simp] def remF (i : Nat) (g : Rho → Option D) : Rho → Option Out := fun ρ => (g ρ).bind fun d => (asInt d).bind fun k => (ρ[i]?).bind fun t => (ownOf t).bind fun es => (intsOf es).bind fun ns => if k ∈ ns then some (.nx (ρ.set i (reOwn t (intsD (ns.erase k))))) else none
theorem u65 {k : Nat} {A : Around} (r : Room k A) : A.units + 65 < cLine := by have := r.un; omega
section
variable {X : Cx} {B : Base} {m : Md} {a b e : Expr} {ga gb g : Rho → Option D} {pos : Pos}
theorem dp_lcount {apos cpos : Pos} (ha : DP X B m a ga) (hb : DP X B m b gb) (hst : starEach [b] X.env = [(false, eval b X.env)] := by rfl)
    (hpe : ∀ {to : TE} {t : TA}, PE X a to → PA X [b] t → PE X (.Call (.Attribute a "count" apos) [b] [] cpos) (tBM X.K "list" (rCntI X.K) to t) := by
      intro to t h1 h2; exact pe_bm PySem.F.plainAttrs_list PySem.F.slot_list_count PySem.F.type_list_count mt_lcount h1 h2) :
    DP X B m (.Call (.Attribute a "count" apos) [b] [] cpos) (b2D ga gb lcountD) := ⟨(hpe ha.pe (pa_cons hb.pe pa_nil hst)).imp fun σ H Q ⟨O, ρ, d, gd, e, q⟩ => by
  obtain ⟨d1, e1, e'⟩ := bind_some e
  obtain ⟨d2, e2, e3⟩ := bind_some e'
  refine ⟨O, ρ, d1, gd, e1, fun v H1 s1 r1 => ?_⟩
  cases d1 with
  | list ds =>
    cases d2 with
    | int k =>
      obtain ⟨ns, e5, e6⟩ := bind_some e3
      cases e6
      simp only [Rep] at r1
      obtain ⟨l, vs, rfl, nO, hl, r⟩ := r1
      cases ints_rep r e5
      refine ⟨.inl ⟨rfl, _, .of hl⟩, O, ρ, _, gd.same s1, e2, fun w H2 s2 r2 => ?_⟩
      refine ⟨l, ns, k, rfl, by rw [rep_int.mp r2], .of (s2 l _ hl), ?_⟩
      exact q _ H2 (s1.trans s2) (rep_int.mpr rfl)
    | _ => cases e3
  | _ => cases e3⟩
theorem ds_rem {i : Nat} {x : Str} {apos xpos cpos : Pos} (hN : X.N[i]? = some x) (he : DP X B .str e g) (hv : Vis X.env.scope x := by first | exact Or.inl rfl | exact Or.inr (Or.inl rfl) | exact Or.inr (Or.inr rfl)) (hd : (x == ("__debug__" : Str)) = false := by decide)
    (hcd : (x == ("__classdict__" : Str)) = false := by decide)
    (hpe : ∀ {to : TE} {t : TA}, PE X (.Name x xpos) to → PA X [e] t → PE X (.Call (.Attribute (.Name x xpos) "remove" apos) [e] [] cpos) (tBM X.K "list" rRemI to t) := by
      intro to t h1 h2; exact pe_bm PySem.F.plainAttrs_list PySem.F.slot_list_remove PySem.F.type_list_remove mt_remove h1 h2)
    (hs : swapsWith (.Call (.Attribute (.Name x xpos) "remove" apos) [e] [] cpos) none pos.line X.env = pure false := by rfl) (hst : starEach [e] X.env = [(false, eval e X.env)] := by rfl) :
    DS X B (.Expr (.Call (.Attribute (.Name x xpos) "remove" apos) [e] [] cpos) pos) (remF i g) := ⟨(ps_expr (hpe (pv i hN hv hd hcd) (pa_cons he.pe pa_nil hst)) hs).imp fun E σ H ⟨O, ρ, r, gd, e, q⟩ => by
  obtain ⟨d, e1, e2⟩ := bind_some e
  obtain ⟨k, ek, e2'⟩ := bind_some e2
  obtain ⟨t, e3, e4⟩ := bind_some e2'
  obtain ⟨es, e5, e6⟩ := bind_some e4
  obtain ⟨ns, e7, e8⟩ := bind_some e6
  have ed : d = .int k := by
    unfold asInt at ek
    split at ek
    · cases ek; rfl
    · cases ek
  subst ed
  split at e8
  · next hk =>
    cases e8
    obtain ⟨a, vs, h1, h2, h3, h4⟩ := gd.ownAt e3 e5
    cases ints_rep h4 e7
    obtain ⟨j, j1, j2, j3, j4⟩ := first_at hk
    refine ⟨_, h1, .inl ⟨rfl, _, .of h3⟩, O, ρ, _, gd, e1, fun v H1 s1 r1 => ?_⟩
    refine ⟨a, ns, k, j, rfl, by rw [rep_int.mp r1], s1 a _ h3, j2, j3, ?_⟩
    rw [j4]
    have g1 := gd.same s1
    have x := g1.put (H' := upd H1 a (.lst ((ns.erase k).map V.int))) e3 e5 h1 (fun b o hb e => by rw [upd_ne hb]; exact e) upd_same (rep_intsD _)
    exact q σ _ O (.ext ((Ext.of gd s1).trans x)) x.good
  · cases e8⟩
/-- list(e) for a name of its own -/
@[simp] def ownL : D → Option D
  | .list ds => if immL ds = true then some (.list ds) else none
  | .tuple ds => if immL ds = true then some (.list ds) else none
  | _ => none
theorem df_list {p : Pos} (hm : X.mg "list" = none) (ha : DP X B .str a ga) (hg : Gl X "list" := by rfl) (he : starEach [a] X.env = (false, eval a X.env) :: starEach [] X.env := by rfl) : DF X B (.Call (.Name "list" p) [a] [] pos) (b1D ga ownL) :=
  ⟨(pe_callTy call_list_of hg hm boot_list (pa_cons ha.pe pa_nil he) (by decide) (by decide) he rfl).imp fun σ H Q ⟨O, ρ, ds, gd, e, q⟩ => by
    obtain ⟨d, e1, e2⟩ := bind_some e
    refine ⟨O, ρ, d, gd, e1, fun v H1 s1 r1 => ?_⟩
    have fin : ∀ (l : Addr) (vs : List V) (es : List D), immL es = true → RepL (Md.O .str B O) H1 es vs → H1 l = none → ds = es → Q (.ref l) (upd H1 l (.lst vs)) := fun l vs es hi r hl hd => by
      subst hd
      have hn : H l = none := by
        cases h : H l with
        | none => rfl
        | some o => rw [s1 _ _ h] at hl; cases hl
      exact q l vs _ (s1.trans (same_upd hl)) hn upd_same (RepL.same (same_upd hl) (r.imm hi))
    cases d with
    | list es =>
      simp only [ownL] at e2
      split at e2
      · next hi =>
        cases e2
        simp only [Rep] at r1
        obtain ⟨a, vs, rfl, _, ha, r⟩ := r1
        exact ⟨a, vs, rfl, .inl (.of ha), fun l hl => fin l vs _ hi r hl rfl⟩
      · cases e2
    | tuple es =>
      simp only [ownL] at e2
      split at e2
      · next hi =>
        cases e2
        simp only [Rep] at r1
        obtain ⟨a, vs, rfl, ha, r⟩ := r1
        exact ⟨a, vs, rfl, .inr (.of ha), fun l hl => fin l vs _ hi r hl rfl⟩
      · cases e2
    | _ => cases e2⟩
end
end DL

set_option autoImplicit false
namespace DL
open PySem PySem.Spec
open PyProof.Rows hiding St
open L2
/-! ## min of a list of alike data; sorted(set(drawn)) -/
section
variable {prog : Program} {w : World} {A : Around} {E : Value → Shared → Prop} {s : Shared}
theorem min_list_ix {l : Addr} {vs : Array Value} {x : PyData} {xs : List PyData} {as : List Addr} {Q : Value → Shared → Prop} (hh : A.handled = none) (hl : s.heap.IsList l vs) (hr : ReadsAll s.heap vs.toList (x :: xs) as) (ha : PySem.W.AlikeAll (x :: xs)) (hu : A.units + 1 + PyData.depthAll (x :: xs) < cLine)
    (h : ∀ (i : Nat) v h' tk, vs[i]? = some v → (x :: xs)[i]? = some (PySem.W.minD x xs) → (∀ b o, s.heap.get? b = some o → h'.get? b = some o) → Q v { s with heap := h', toks := tk }) :
    wpAny (model prog w) A (call (.builtin "min") [.ref l]) Q E s := by
  have hn : vs.size = xs.length + 1 := PySem.W.readsAll_len hr
  refine call_min_walkH (PySem.W.iter_listW (A := A.in1) hh hl fun s₂ e W st hfp hw hk => ?_)
  refine ⟨_, _, _, _, _, _, _, s.heap, _, rfl, W, st, hfp, by omega, hw, hk, PySem.W.cmpIn_lt (A := A.in1) hr ha (by show A.units + 1 + _ < _; exact hu), fun v s' hP m => ?_⟩
  obtain ⟨h', tk, rfl, hk'⟩ := PySem.W.moved_old e rfl m
  have e1 : vs.size - 1 = xs.length := by omega
  have e2 := PySem.W.argBest_fold PySem.W.dataLt PyData.none x xs xs.length (Nat.le_refl _)
  rw [List.take_length] at e2
  refine h _ v h' tk hP ?_ hk'
  rw [e1]
  have e3 := e2.2
  rw [List.getD_eq_getElem?_getD] at e3
  have hlt : argBest (fun i j => PySem.W.dataLt ((x :: xs).getD i PyData.none) ((x :: xs).getD j PyData.none)) xs.length < (x :: xs).length := Nat.lt_succ_of_le e2.1
  rw [List.getElem?_eq_getElem hlt] at e3 ⊢
  exact congrArg some e3
end
open Classical in
noncomputable def minTD : List D → Option D
  | [.list (d :: ds)] => if PySem.W.AlikeAll (d :: ds) ∧ PyData.depthAll (d :: ds) ≤ 60 then some (PySem.W.minD d ds) else none
  | _ => none
def rMinT (K : PySem.W.Frag) : List V → Hp → VK → Prop := fun vs H Q => ∃ (a : Addr) (xs : List V) (O : Addr → Prop) (d : D) (ds : List D), vs = [V.ref a] ∧ SqL K H a xs ∧ RepL O H (d :: ds) xs ∧ PySem.W.AlikeAll (d :: ds) ∧ PyData.depthAll (d :: ds) ≤ 60 ∧
  ∀ v, Rep O H (PySem.W.minD d ds) v → Q v H
theorem cr_minT {X : Cx} (hc : X.calm = true) (hu : X.A.units + 64 < cLine) : CallR X (.builtin "min") (rMinT X.K) := by
  intro pins s σ H vs us Q I r h
  obtain ⟨a, xs, O, d, ds, rfl, hs, hr, hal, hdp, q⟩ := h
  obtain ⟨its, rv, hl, _⟩ := I.list hs
  rw [Vals.ref1 r]
  obtain ⟨as, ra⟩ := Dp.readsAll I _ _ _ (RepL.dp hr) rv
  refine min_list_ix (I.ok.hd hc) hl.isList (by simpa using ra) hal (by omega) fun i v h' tk hi hm hk => ?_
  obtain ⟨w, hw, rw1⟩ := hr.get hm
  obtain ⟨u, hu2, ru⟩ := rv.get hw
  have ev : u = v := by
    have hi' : its[i]? = some v := by simpa using hi
    rw [hi'] at hu2
    cases hu2
    rfl
  subst ev
  exact ⟨w, H, I.kept hk, ru, q w rw1⟩
theorem n_minT {K : PySem.W.Frag} : OpN (rMinT K) minTD := by
  intro O H ds z xs Q t hf rx q
  unfold minTD at hf
  split at hf
  · next d es =>
    split at hf
    · next hj =>
      cases hf
      obtain ⟨v, rfl, r⟩ := repL_one rx
      simp only [Rep] at r
      obtain ⟨a, vs, rfl, _, ha, r⟩ := r
      exact ⟨a, vs, O, d, es, rfl, .of ha, r, hj.1, hj.2, fun v rv => q v H (Same.refl H) rv⟩
    · cases hf
  · cases hf
theorem de_sset {X : Cx} {B : Base} {a : Expr} {fa : Rho → Option (D × Rho)} {p p2 q pos : Pos} (hc : X.calm = true) (hm : X.mg "sorted" = none) (hm2 : X.mg "set" = none) (ha : DE X B a fa) (hg : Gl X "sorted" := by rfl) (hg2 : Gl X "set" := by rfl) (na : starEach [a] X.env = (false, eval a X.env) :: starEach [] X.env := by rfl)
    (nl : starEach [Expr.Call (.Name "set" p2) [a] [] q] X.env = (false, eval (.Call (.Name "set" p2) [a] [] q) X.env) :: starEach [] X.env := by rfl) : DE X B (.Call (.Name "sorted" p) [.Call (.Name "set" p2) [a] [] q] [] pos) (nE (consEA fa nilEA) ssetD) :=
  ⟨(pe_ssetL hc hm hm2 ha.pe hg hg2 na nl).imp fun σ H Q ⟨O, ρ, d, ρ', gd, e, z⟩ => by
    obtain ⟨⟨ds, ρ1⟩, e1, e2⟩ := bind_some e
    obtain ⟨z1, e2a, e2b⟩ := bind_some e2
    cases e2b
    obtain ⟨⟨d1, ρ2⟩, e3, e4⟩ := bind_some e1
    cases e4
    refine ⟨O, ρ, d1, _, gd, e3, fun v H1 s1 r1 => ?_⟩
    cases d1 with
    | list ds =>
      obtain ⟨ns, e5, e6⟩ := bind_some e2a
      split at e6
      · next hj =>
        cases e6
        simp only [Rep] at r1
        obtain ⟨l, vs, rfl, _, hl, r⟩ := r1
        cases ints_rep r e5
        exact ⟨l, ns, rfl, .of hl, hj.1, hj.2, fun p hp => z _ _ (s1.samr (same_upd hp)) (rep_lst s1.good.otrk hp (rep_intsD _))⟩
      · cases e6
    | _ => cases e2a⟩
/-! ### the least tuple by its first part -/
theorem lt_first {n m : Int} {r t : List D} (h : n ≠ m) : PySem.W.dataLt (.tuple (.int n :: r)) (.tuple (.int m :: t)) = decide (n < m) := by
  have hal : PySem.W.alike (.int n) (.int m) = true := by simp [PySem.W.alike]
  have hne : PyData.eqv (.int n) (.int m) = false := by rw [PyData.eqv]; simpa using h
  rw [PySem.W.dataLt_tuple, PySem.W.dataLt_all_no hal hne, PySem.W.dataLt_int]
def fstI : D → Int
  | .tuple (.int n :: _) => n
  | _ => 0
def isRow (d : D) : Prop := ∃ n r, d = .tuple (.int n :: r)
theorem min_step {x y : D} (hx : isRow x) (hy : isRow y) : fstI (if PySem.W.dataLt y x then y else x) ≤ fstI x ∧ fstI (if PySem.W.dataLt y x then y else x) ≤ fstI y := by
  obtain ⟨n, r, rfl⟩ := hx
  obtain ⟨m, t, rfl⟩ := hy
  by_cases e : m = n
  · subst e
    split <;> exact ⟨Int.le_refl _, Int.le_refl _⟩
  · rw [lt_first e]
    by_cases q : m < n
    · rw [decide_eq_true q, if_pos rfl]
      show m ≤ n ∧ m ≤ m
      omega
    · rw [decide_eq_false q, if_neg Bool.false_ne_true]
      show n ≤ n ∧ n ≤ m
      omega
theorem minD_first : ∀ (ds : List D) (d : D), isRow d → (∀ x ∈ ds, isRow x) → PySem.W.minD d ds ∈ d :: ds ∧ ∀ x ∈ d :: ds, fstI (PySem.W.minD d ds) ≤ fstI x
  | [], d, hd, _ => ⟨by simp [PySem.W.minD], fun x hx => by
    have : x = d := by simpa using hx
    subst this
    exact Int.le_refl _⟩
  | y :: ds, d, hd, h => by
    have hy := h y (by simp)
    have st := min_step hd hy
    have e : PySem.W.minD d (y :: ds) = PySem.W.minD (if PySem.W.dataLt y d then y else d) ds := rfl
    have hr : isRow (if PySem.W.dataLt y d then y else d) := by split; exact hy; exact hd
    obtain ⟨h1, h2⟩ := minD_first ds _ hr fun x hx => h x (by simp [hx])
    rw [e]
    refine ⟨?_, fun x hx => ?_⟩
    · rcases List.mem_cons.mp h1 with q | q
      · rw [q]
        split <;> simp
      · simp [q]
    · have h3 := h2 _ List.mem_cons_self
      rcases List.mem_cons.mp hx with rfl | hx
      · exact Int.le_trans h3 st.1
      · rcases List.mem_cons.mp hx with rfl | hx
        · exact Int.le_trans h3 st.2
        · exact h2 x (by simp [hx])
end DL

namespace My
open PySem PySem.Spec
open PyProof.Rows hiding St
open L2 DL
noncomputable section
def topS (i : Nat) : Stmt := PySem.Challenge.pw_autosaves_k11_whole_fewest_saves.main.body.getD i (.Pass ⟨0, 0, 0, 0⟩)
abbrev st_in_range : Stmt := topS 10
theorem sc_in_range : FnScope ["value", "low", "high"] ["value", "low", "high"] (defScope st_in_range) := ⟨rfl, rfl, rfl, by decide +kernel, rfl, by decide +kernel, by decide +kernel⟩
abbrev st_is_rule : Stmt := topS 11
theorem sc_is_rule : FnScope ["value"] ["value"] (defScope st_is_rule) := ⟨rfl, rfl, rfl, by decide +kernel, rfl, by decide +kernel, by decide +kernel⟩
abbrev st_is_log : Stmt := topS 12
theorem sc_is_log : FnScope ["value", "time", "later"] ["value"] (defScope st_is_log) := ⟨rfl, rfl, rfl, by decide +kernel, rfl, by decide +kernel, by decide +kernel⟩
abbrev st_check_rule : Stmt := topS 13
theorem sc_check_rule : FnScope ["value"] ["value"] (defScope st_check_rule) := ⟨rfl, rfl, rfl, by decide +kernel, rfl, by decide +kernel, by decide +kernel⟩
abbrev st_check_log : Stmt := topS 14
theorem sc_check_log : FnScope ["value"] ["value"] (defScope st_check_log) := ⟨rfl, rfl, rfl, by decide +kernel, rfl, by decide +kernel, by decide +kernel⟩
abbrev st_check_number : Stmt := topS 15
theorem sc_check_number : FnScope ["value", "low", "high"] ["value", "low", "high"] (defScope st_check_number) := ⟨rfl, rfl, rfl, by decide +kernel, rfl, by decide +kernel, by decide +kernel⟩
abbrev st_played : Stmt := topS 16
theorem sc_played : FnScope ["rule", "log", "count", "idle", "unsaved", "rows", "done", "index", "time"] ["rule", "log"] (defScope st_played) := ⟨rfl, rfl, rfl, by decide +kernel, rfl, by decide +kernel, by decide +kernel⟩
abbrev st_saves : Stmt := topS 17
theorem sc_saves : FnScope ["rule", "log"] ["rule", "log"] (defScope st_saves) := ⟨rfl, rfl, rfl, by decide +kernel, rfl, by decide +kernel, by decide +kernel⟩
abbrev st_most_unsaved : Stmt := topS 18
theorem sc_most_unsaved : FnScope ["rule", "log"] ["rule", "log"] (defScope st_most_unsaved) := ⟨rfl, rfl, rfl, by decide +kernel, rfl, by decide +kernel, by decide +kernel⟩
abbrev st_longest_run : Stmt := topS 20
theorem sc_longest_run : FnScope ["log", "idle", "best", "run", "index", "time"] ["log", "idle"] (defScope st_longest_run) := ⟨rfl, rfl, rfl, by decide +kernel, rfl, by decide +kernel, by decide +kernel⟩
abbrev st_loosest : Stmt := topS 21
theorem sc_loosest : FnScope ["log", "count", "most", "gaps", "time", "later", "idle", "gap"] ["log", "count", "most"] (defScope st_loosest) := ⟨rfl, rfl, rfl, by decide +kernel, rfl, by decide +kernel, by decide +kernel⟩
abbrev st_fewest_saves : Stmt := topS 22
theorem sc_fewest_saves : FnScope ["log", "most", "rules", "count", "rule"] ["log", "most"] (defScope st_fewest_saves) := ⟨rfl, rfl, rfl, by decide +kernel, rfl, by decide +kernel, by decide +kernel⟩
abbrev st_best_rule : Stmt := topS 23
theorem sc_best_rule : FnScope ["log", "most", "rules", "count", "rule"] ["log", "most"] (defScope st_best_rule) := ⟨rfl, rfl, rfl, by decide +kernel, rfl, by decide +kernel, by decide +kernel⟩
abbrev st_law_well : Stmt := topS 25
theorem sc_law_well : FnScope ["_law_cell", "_law_turn"] ["_law_cell", "_law_turn"] (defScope st_law_well) := ⟨rfl, rfl, rfl, by decide +kernel, rfl, by decide +kernel, by decide +kernel⟩
abbrev st_law_take : Stmt := topS 26
theorem sc_law_take : FnScope ["_law_bag", "_law_many", "_law_found", "_law_p", "_law_n"] ["_law_bag", "_law_many"] (defScope st_law_take) := ⟨rfl, rfl, rfl, by decide +kernel, rfl, by decide +kernel, by decide +kernel⟩
abbrev st_law_bags : Stmt := topS 27
theorem sc_law_bags : FnScope ["_law_script", "_law_most", "_law_k", "_law_cell"] ["_law_script", "_law_most"] (defScope st_law_bags) := ⟨rfl, rfl, rfl, by decide +kernel, rfl, by decide +kernel, by decide +kernel⟩
abbrev st_law_same : Stmt := topS 28
theorem sc_law_same : FnScope ["_law_a", "_law_b", "_law_x", "_law_y"] ["_law_a", "_law_b"] (defScope st_law_same) := ⟨rfl, rfl, rfl, by decide +kernel, rfl, by decide +kernel, by decide +kernel⟩
abbrev st_law_log : Stmt := topS 29
theorem sc_law_log : FnScope ["_law_bag", "_law_most", "_law_rule", "_law_found", "_law_time", "_law_turn", "_law_near"] ["_law_bag", "_law_most", "_law_rule"] (defScope st_law_log) := ⟨rfl, rfl, rfl, by decide +kernel, rfl, by decide +kernel, by decide +kernel⟩
abbrev st_law_play : Stmt := topS 30
theorem sc_law_play : FnScope ["_law_rule", "_law_log_here", "_law_count", "_law_idle", "_law_waiting", "_law_rows", "_law_done", "_law_index"] ["_law_rule", "_law_log_here"] (defScope st_law_play) := ⟨rfl, rfl, rfl, by decide +kernel, rfl, by decide +kernel, by decide +kernel⟩
abbrev st_law_idles : Stmt := topS 31
theorem sc_law_idles : FnScope ["_law_log_here", "_law_gaps", "_law_time", "_law_later", "_law_gap"] ["_law_log_here"] (defScope st_law_idles) := ⟨rfl, rfl, rfl, by decide +kernel, rfl, by decide +kernel, by decide +kernel⟩
abbrev st_law : Stmt := topS 32
theorem sc_law : FnScope ["_law_script", "_law_bag", "_law_log_here", "_law_before", "_law_most", "_law_good", "_law_count", "_law_told", "_law_rule", "_law_idle", "_law_rows", "_law_done", "_law_row"] ["_law_script"] (defScope st_law) := ⟨rfl, rfl, rfl, by decide +kernel, rfl, by decide +kernel, by decide +kernel⟩
structure Txt (K : PySem.W.Frag) (mg : Str → Option Value) : Prop where
  d_in_range : DefAt K mg "in_range" st_in_range ["value", "low", "high"]
  d_is_rule : DefAt K mg "is_rule" st_is_rule ["value"]
  d_is_log : DefAt K mg "is_log" st_is_log ["value"]
  d_check_rule : DefAt K mg "check_rule" st_check_rule ["value"]
  d_check_log : DefAt K mg "check_log" st_check_log ["value"]
  d_check_number : DefAt K mg "check_number" st_check_number ["value", "low", "high"]
  d_played : DefAt K mg "played" st_played ["rule", "log"]
  d_saves : DefAt K mg "saves" st_saves ["rule", "log"]
  d_most_unsaved : DefAt K mg "most_unsaved" st_most_unsaved ["rule", "log"]
  d_longest_run : DefAt K mg "longest_run" st_longest_run ["log", "idle"]
  d_loosest : DefAt K mg "loosest" st_loosest ["log", "count", "most"]
  d_fewest_saves : DefAt K mg "fewest_saves" st_fewest_saves ["log", "most"]
  d_best_rule : DefAt K mg "best_rule" st_best_rule ["log", "most"]
  d_law_well : DefAt K mg "_law_well" st_law_well ["_law_cell", "_law_turn"]
  d_law_take : DefAt K mg "_law_take" st_law_take ["_law_bag", "_law_many"]
  d_law_bags : DefAt K mg "_law_bags" st_law_bags ["_law_script", "_law_most"]
  d_law_same : DefAt K mg "_law_same" st_law_same ["_law_a", "_law_b"]
  d_law_log : DefAt K mg "_law_log" st_law_log ["_law_bag", "_law_most", "_law_rule"]
  d_law_play : DefAt K mg "_law_play" st_law_play ["_law_rule", "_law_log_here"]
  d_law_idles : DefAt K mg "_law_idles" st_law_idles ["_law_log_here"]
  z_all : mg "all" = none
  z_bool : mg "bool" = none
  z_enumerate : mg "enumerate" = none
  z_int : mg "int" = none
  z_isinstance : mg "isinstance" = none
  z_len : mg "len" = none
  z_list : mg "list" = none
  z_max : mg "max" = none
  z_min : mg "min" = none
  z_range : mg "range" = none
  z_set : mg "set" = none
  z_sorted : mg "sorted" = none
  z_str : mg "str" = none
  z_tuple : mg "tuple" = none
  z_zip : mg "zip" = none
  g_LAST : ∃ t, mg "LAST" = some (.int 1000000 t)
  g_MOST_COUNT : ∃ t, mg "MOST_COUNT" = some (.int 20 t)
  g_MOST_EDITS : ∃ t, mg "MOST_EDITS" = some (.int 60 t)
  g_MOST_IDLE : ∃ t, mg "MOST_IDLE" = some (.int 1000 t)
section
variable {P : Program} {w : World} {K : PySem.W.Frag} {mg : Str → Option Value} {base : Heap}
def b_in_range : Rho → Option Out :=
    (retP (andV (b1D (varD .bas 0) (isTyD .int)) (andV (b1D (b1D (varD .bas 0) (isTyD .bool)) notD) (chD leD leD (varD .bas 1) (varD .bas 0) (varD .bas 2)))))
def F_in_range : List D → Option D := runF 3 3 b_in_range
theorem fn_in_range (T : Txt K mg) : Fn P w K mg base 1 "in_range" F_in_range := by
  obtain ⟨f, fd, F, bi, hm⟩ := T.d_in_range.ex
  exact fn_mk F sc_in_range bi hm rfl rfl (fun B cdv A outer s H E hr =>
      (ds_one (ds_ret (dp_and (dp_isi (T := .int) T.z_isinstance T.z_int rfl (dp_var 0)) (dp_and (dp_not (dp_isi (T := .bool) T.z_isinstance T.z_bool rfl (dp_var 0))) (dp_one (dp_chain op_le o_cmp op_le o_cmp (dp_var 1) (dp_var 0) (dp_var 2))))))))
def b_is_rule : Rho → Option Out :=
    (seqF (iteF (toT (orT (notT (tstD (b1D (varD .bas 0) (isTyD .tuple)))) (tstD (b2D (nD (consA (varD .bas 0) nilA) lenD) (kD (.int 2)) neD)))) (retP (kD (.bool false))) skipF)
    (retP (andV (nD (consA (b2D (varD .bas 0) (kD (.int 0)) ixD) (consA (kD (.int 1)) (consA (kD (.int 20)) nilA))) F_in_range) (nD (consA (b2D (varD .bas 0) (kD (.int 1)) ixD) (consA (kD (.int 1)) (consA (kD (.int 1000)) nilA))) F_in_range))))
def F_is_rule : List D → Option D := runF 1 1 b_is_rule
theorem fn_is_rule (T : Txt K mg) : Fn P w K mg base 2 "is_rule" F_is_rule := by
  obtain ⟨f, fd, F, bi, hm⟩ := T.d_is_rule.ex
  exact fn_mk F sc_is_rule bi hm rfl rfl (fun B cdv A outer s H E hr =>
      (ds_cons (ds_if (det_of (dt_w (dw_or (dt_not (dt_val (m := .bas) (dp_isi (T := .tuple) T.z_isinstance T.z_tuple rfl (dp_var 0)))) (dw_or1 (dt_cmp (m := .bas) (op_neD hr.units) o_ne (dp_b call_len_seq n_len T.z_len PySem.boot_len (dpa_cons (dp_var 0) dpa_nil)) dp_int (nomark _)))))) (ds_one (ds_ret dp_bool)) ds_nil)
      (ds_one (ds_ret (dp_and (dp_call (fn_in_range T) hr (by decide) (dpa_cons (dp_ix ix_seq o_ix (dp_var 0) dp_int) (dpa_cons dp_int (dpa_cons (dp_glob (T.g_MOST_COUNT.choose_spec) ⟨_, rfl⟩) dpa_nil)))) (dp_one (dp_call (fn_in_range T) hr (by decide) (dpa_cons (dp_ix ix_seq o_ix (dp_var 0) dp_int) (dpa_cons dp_int (dpa_cons (dp_glob (T.g_MOST_IDLE.choose_spec) ⟨_, rfl⟩) dpa_nil))))))))))
def c_is_log_1 : Rho → Option D :=
    (lcD (itD (varD .str 0)) [1] (bName 1) yesT (nD (consA (varD .str 1) (consA (kD (.int 0)) (consA (kD (.int 1000000)) nilA))) F_in_range))
def c_is_log_2 : Rho → Option D :=
    (lcD (zipI (varD .str 0) (slD (varD .str 0) (soO (kD (.int 1))) noO)) [1, 2] (bTup 2 (bCons (bName 1) (bCons (bName 2) bNil))) yesT (b2D (varD .str 1) (varD .str 2) leD))
def b_is_log : Rho → Option Out :=
    (seqF (iteF (toT (orT (notT (tstD (b1D (varD .bas 0) (isTyD .tuple)))) (tstD (b2D (nD (consA (varD .bas 0) nilA) lenD) (kD (.int 60)) gtD)))) (retP (kD (.bool false))) skipF)
    (seqF (iteF (toT (notT (tstD (nD (consA c_is_log_1 nilA) allD)))) (retP (kD (.bool false))) skipF)
    (retP (nD (consA c_is_log_2 nilA) allD))))
def F_is_log : List D → Option D := runF 1 3 b_is_log
theorem fn_is_log (T : Txt K mg) : Fn P w K mg base 2 "is_log" F_is_log := by
  obtain ⟨f, fd, F, bi, hm⟩ := T.d_is_log.ex
  exact fn_mk F sc_is_log bi hm rfl rfl (fun B cdv A outer s H E hr =>
      (ds_cons (ds_if (det_of (dt_w (dw_or (dt_not (dt_val (m := .bas) (dp_isi (T := .tuple) T.z_isinstance T.z_tuple rfl (dp_var 0)))) (dw_or1 (dt_cmp (m := .bas) op_gt o_cmp (dp_b call_len_seq n_len T.z_len PySem.boot_len (dpa_cons (dp_var 0) dpa_nil)) (dp_glob (T.g_MOST_EDITS.choose_spec) ⟨_, rfl⟩) (nomark _)))))) (ds_one (ds_ret dp_bool)) ds_nil)
      (ds_cons (ds_if (det_of (dt_not (dt_val (m := .bas) (dp_b (cr_all rfl) n_all T.z_all boot_all (dpa_cons (dp_lc (own := [("time", 1)]) rfl sc_is_log.nd (dic_of (di_seq (dp_var 0))) (blkOk_by (own := [("time", 1)]) (N := ["value", "time", "later"]) (sc := defScope st_is_log) (by decide +kernel)) (by decide) (fun _ _ _ _ _ => (dg_name (i := 1) sc_is_log.nd rfl (by first | exact Or.inl rfl | exact Or.inr rfl) (by first | exact .inl rfl | exact .inr rfl))) (fun _ _ _ _ _ => dts_nil) (fun _ _ _ _ _ => (dp_call (fn_in_range T) hr (by decide) (dpa_cons (dp_var 1) (dpa_cons dp_int (dpa_cons (dp_glob (T.g_LAST.choose_spec) ⟨_, rfl⟩) dpa_nil)))))) dpa_nil))))) (ds_one (ds_ret dp_bool)) ds_nil)
      (ds_one (ds_ret (dp_b (cr_all rfl) n_all T.z_all boot_all (dpa_cons (dp_lc (own := [("time", 1), ("later", 2)]) rfl sc_is_log.nd (dic_of (di_zip T.z_zip (dp_var 0) (dp_slice (dp_var 0) (do_some dp_int) do_none))) (blkOk_by (own := [("time", 1), ("later", 2)]) (N := ["value", "time", "later"]) (sc := defScope st_is_log) (by decide +kernel)) (by decide) (fun _ _ _ _ _ => (dg_tup rfl (dgs_cons (dg_name (i := 1) sc_is_log.nd rfl (by first | exact Or.inl rfl | exact Or.inr rfl) (by first | exact .inl rfl | exact .inr rfl)) (dgs_cons (dg_name (i := 2) sc_is_log.nd rfl (by first | exact Or.inl rfl | exact Or.inr rfl) (by first | exact .inl rfl | exact .inr rfl)) dgs_nil)))) (fun _ _ _ _ _ => dts_nil) (fun _ _ _ _ _ => (dp_cmp op_le o_cmp (dp_var 1) (dp_var 2) (nomark _)))) dpa_nil)))))))
def b_check_rule : Rho → Option Out :=
    (iteF (toT (notT (tstD (nD (consA (varD .bas 0) nilA) F_is_rule)))) neverF skipF)
def F_check_rule : List D → Option D := runF 1 1 b_check_rule
theorem fn_check_rule (T : Txt K mg) : Fn P w K mg base 3 "check_rule" F_check_rule := by
  obtain ⟨f, fd, F, bi, hm⟩ := T.d_check_rule.ex
  exact fn_mk F sc_check_rule bi hm rfl rfl (fun B cdv A outer s H E hr =>
      (ds_one (ds_if (det_of (dt_not (dt_val (m := .bas) (dp_call (fn_is_rule T) hr (by decide) (dpa_cons (dp_var 0) dpa_nil))))) (ds_one ds_never) ds_nil)))
def b_check_log : Rho → Option Out :=
    (iteF (toT (notT (tstD (nD (consA (varD .bas 0) nilA) F_is_log)))) neverF skipF)
def F_check_log : List D → Option D := runF 1 1 b_check_log
theorem fn_check_log (T : Txt K mg) : Fn P w K mg base 3 "check_log" F_check_log := by
  obtain ⟨f, fd, F, bi, hm⟩ := T.d_check_log.ex
  exact fn_mk F sc_check_log bi hm rfl rfl (fun B cdv A outer s H E hr =>
      (ds_one (ds_if (det_of (dt_not (dt_val (m := .bas) (dp_call (fn_is_log T) hr (by decide) (dpa_cons (dp_var 0) dpa_nil))))) (ds_one ds_never) ds_nil)))
def b_check_number : Rho → Option Out :=
    (iteF (toT (notT (tstD (nD (consA (varD .bas 0) (consA (varD .bas 1) (consA (varD .bas 2) nilA))) F_in_range)))) neverF skipF)
def F_check_number : List D → Option D := runF 3 3 b_check_number
theorem fn_check_number (T : Txt K mg) : Fn P w K mg base 2 "check_number" F_check_number := by
  obtain ⟨f, fd, F, bi, hm⟩ := T.d_check_number.ex
  exact fn_mk F sc_check_number bi hm rfl rfl (fun B cdv A outer s H E hr =>
      (ds_one (ds_if (det_of (dt_not (dt_val (m := .bas) (dp_call (fn_in_range T) hr (by decide) (dpa_cons (dp_var 0) (dpa_cons (dp_var 1) (dpa_cons (dp_var 2) dpa_nil))))))) (ds_one ds_never) ds_nil)))
def l_played_1 : Rho → Option Out :=
    (seqF (iteF (toT (andT (tstD (b2D (varD .bas 4) (kD (.int 0)) gtD)) (tstD (b2D (b2D (varD .bas 8) (b2D (varD .bas 1) (b2D (varD .bas 7) (kD (.int 1)) subD) ixD) subD) (varD .bas 3) geD)))) (seqF (appF 6 (nD (consA (b2D (b2D (varD .str 1) (b2D (varD .str 7) (kD (.int 1)) subD) ixD) (varD .str 3) addD) (consA (kD (.str "idle")) nilA)) tupD))
    (setP 4 (kD (.int 0)))) skipF)
    (seqF (setP 4 (b2D (varD .str 4) (kD (.int 1)) addD))
    (seqF (iteF (toT (tstD (b2D (varD .bas 4) (varD .bas 2) eqD))) (seqF (appF 6 (nD (consA (varD .str 8) (consA (kD (.str "count")) nilA)) tupD))
    (setP 4 (kD (.int 0)))) skipF)
    (appF 5 (varD .str 4)))))
def b_played : Rho → Option Out :=
    (seqF (asgF (toE (varD .str 0)) (bTup 2 (bCons (bName 2) (bCons (bName 3) bNil))))
    (seqF (parDOO 4 5 6 (kD (.int 0)))
    (seqF (forF (toI (enI (varD .str 1))) (bTup 2 (bCons (bName 7) (bCons (bName 8) bNil))) l_played_1)
    (seqF (iteF (toT (tstD (b2D (varD .bas 4) (kD (.int 0)) gtD))) (appF 6 (nD (consA (b2D (b2D (varD .str 1) (b1D (kD (.int 1)) negD) ixD) (varD .str 3) addD) (consA (kD (.str "idle")) nilA)) tupD)) skipF)
    (retP (nD (consA (varD .bas 5) (consA (varD .bas 6) nilA)) tupD))))))
def F_played : List D → Option D := runF 2 9 b_played
theorem fn_played (T : Txt K mg) : Fn P w K mg base 1 "played" F_played := by
  obtain ⟨f, fd, F, bi, hm⟩ := T.d_played.ex
  exact fn_mk F sc_played bi hm rfl rfl (fun B cdv A outer s H E hr =>
      (ds_cons (ds_asg (de_of (dp_var 0)) (dg_tup rfl (dgs_cons (dg_name (i := 2) sc_played.nd rfl (by first | exact Or.inl rfl | exact Or.inr rfl) (by first | exact .inl rfl | exact .inr rfl)) (dgs_cons (dg_name (i := 3) sc_played.nd rfl (by first | exact Or.inl rfl | exact Or.inr rfl) (by first | exact .inl rfl | exact .inr rfl)) dgs_nil))))
      (ds_cons (ds_parDOO rfl sc_played.nd rfl rfl rfl (by decide) (by decide) (by decide) rfl rfl rfl dp_int rfl)
      (ds_cons (ds_for PassesOwn.never rfl (die_of (di_enum T.z_enumerate (dp_var 1))) (dg_tup rfl (dgs_cons (dg_name (i := 7) sc_played.nd rfl (by first | exact Or.inl rfl | exact Or.inr rfl) (by first | exact .inl rfl | exact .inr rfl)) (dgs_cons (dg_name (i := 8) sc_played.nd rfl (by first | exact Or.inl rfl | exact Or.inr rfl) (by first | exact .inl rfl | exact .inr rfl)) dgs_nil))) (ds_cons (ds_if (det_of (dt_w (dw_and (dt_cmp (m := .bas) op_gt o_cmp (dp_var 4) dp_int (nomark _)) (dw_and1 (dt_cmp (m := .bas) op_ge o_cmp (dp_op op_sub o_sub (dp_var 8) (dp_ix ix_seq o_ix (dp_var 1) (dp_op op_sub o_sub (dp_var 7) dp_int))) (dp_var 3) (nomark _)))))) (ds_cons (ds_app (i := 6) rfl (dp_tup (dpa_cons (dp_op op_addA o_add (dp_ix ix_seq o_ix (dp_var 1) (dp_op op_sub o_sub (dp_var 7) dp_int)) (dp_var 3)) (dpa_cons dp_str dpa_nil))))
      (ds_one (ds_setP (i := 4) sc_played.nd rfl (by first | exact Or.inl rfl | exact Or.inr rfl) dp_int))) ds_nil)
      (ds_cons (ds_setP (i := 4) sc_played.nd rfl (by first | exact Or.inl rfl | exact Or.inr rfl) (dp_op op_addA o_add (dp_var 4) dp_int))
      (ds_cons (ds_if (det_of (dt_cmp (m := .bas) (op_eqD hr.units) o_eq (dp_var 4) (dp_var 2) (nomark _))) (ds_cons (ds_app (i := 6) rfl (dp_tup (dpa_cons (dp_var 8) (dpa_cons dp_str dpa_nil))))
      (ds_one (ds_setP (i := 4) sc_played.nd rfl (by first | exact Or.inl rfl | exact Or.inr rfl) dp_int))) ds_nil)
      (ds_one (ds_app (i := 5) rfl (dp_var 4)))))))
      (ds_cons (ds_if (det_of (dt_cmp (m := .bas) op_gt o_cmp (dp_var 4) dp_int (nomark _))) (ds_one (ds_app (i := 6) rfl (dp_tup (dpa_cons (dp_op op_addA o_add (dp_ix ix_seq o_ix (dp_var 1) (dp_un un_neg o_neg dp_int)) (dp_var 3)) (dpa_cons dp_str dpa_nil))))) ds_nil)
      (ds_one (ds_ret (dp_tup (dpa_cons (dp_var 5) (dpa_cons (dp_var 6) dpa_nil))))))))))
def b_saves : Rho → Option Out :=
    (seqF (dropE (toE (nD (consA (varD .str 0) nilA) F_check_rule)))
    (seqF (dropE (toE (nD (consA (varD .str 1) nilA) F_check_log)))
    (retP (b2D (nD (consA (varD .bas 0) (consA (varD .bas 1) nilA)) F_played) (kD (.int 1)) ixD))))
def F_saves : List D → Option D := runF 2 2 b_saves
theorem fn_saves (T : Txt K mg) : Fn P w K mg base 4 "saves" F_saves := by
  obtain ⟨f, fd, F, bi, hm⟩ := T.d_saves.ex
  exact fn_mk F sc_saves bi hm rfl rfl (fun B cdv A outer s H E hr =>
      (ds_cons (ds_expr (de_of (dp_call (fn_check_rule T) hr (by decide) (dpa_cons (dp_var 0) dpa_nil))))
      (ds_cons (ds_expr (de_of (dp_call (fn_check_log T) hr (by decide) (dpa_cons (dp_var 1) dpa_nil))))
      (ds_one (ds_ret (dp_ix ix_seq o_ix (dp_call (fn_played T) hr (by decide) (dpa_cons (dp_var 0) (dpa_cons (dp_var 1) dpa_nil))) dp_int))))))
def b_most_unsaved : Rho → Option Out :=
    (seqF (dropE (toE (nD (consA (varD .str 0) nilA) F_check_rule)))
    (seqF (dropE (toE (nD (consA (varD .str 1) nilA) F_check_log)))
    (retP (nD (consA (b2D (nD (consA (kD (.int 0)) nilA) lstD) (b2D (nD (consA (varD .bas 0) (consA (varD .bas 1) nilA)) F_played) (kD (.int 0)) ixD) addD) nilA) maxD))))
def F_most_unsaved : List D → Option D := runF 2 2 b_most_unsaved
theorem fn_most_unsaved (T : Txt K mg) : Fn P w K mg base 4 "most_unsaved" F_most_unsaved := by
  obtain ⟨f, fd, F, bi, hm⟩ := T.d_most_unsaved.ex
  exact fn_mk F sc_most_unsaved bi hm rfl rfl (fun B cdv A outer s H E hr =>
      (ds_cons (ds_expr (de_of (dp_call (fn_check_rule T) hr (by decide) (dpa_cons (dp_var 0) dpa_nil))))
      (ds_cons (ds_expr (de_of (dp_call (fn_check_log T) hr (by decide) (dpa_cons (dp_var 1) dpa_nil))))
      (ds_one (ds_ret (dp_b (cr_max rfl) n_max T.z_max boot_max (dpa_cons (dp_op op_addA o_add (dp_lst (dpa_cons dp_int dpa_nil)) (dp_ix ix_seq o_ix (dp_call (fn_played T) hr (by decide) (dpa_cons (dp_var 0) (dpa_cons (dp_var 1) dpa_nil))) dp_int)) dpa_nil)))))))
def l_longest_run_1 : Rho → Option Out :=
    (seqF (setP 3 (ifD (orT (tstD (b2D (varD .bas 4) (kD (.int 0)) eqD)) (tstD (b2D (b2D (varD .bas 5) (b2D (varD .bas 0) (b2D (varD .bas 4) (kD (.int 1)) subD) ixD) subD) (varD .bas 1) geD))) (kD (.int 1)) (b2D (varD .str 3) (kD (.int 1)) addD)))
    (setP 2 (nD (consA (varD .str 2) (consA (varD .str 3) nilA)) max2D)))
def b_longest_run : Rho → Option Out :=
    (seqF (asgF (toE (nD (consA (kD (.int 0)) (consA (kD (.int 0)) nilA)) tupD)) (bTup 2 (bCons (bName 2) (bCons (bName 3) bNil))))
    (seqF (forF (toI (enI (varD .str 0))) (bTup 2 (bCons (bName 4) (bCons (bName 5) bNil))) l_longest_run_1)
    (retP (varD .bas 2))))
def F_longest_run : List D → Option D := runF 2 6 b_longest_run
theorem fn_longest_run (T : Txt K mg) : Fn P w K mg base 1 "longest_run" F_longest_run := by
  obtain ⟨f, fd, F, bi, hm⟩ := T.d_longest_run.ex
  exact fn_mk F sc_longest_run bi hm rfl rfl (fun B cdv A outer s H E hr =>
      (ds_cons (ds_asg (de_of (dp_tup (dpa_cons dp_int (dpa_cons dp_int dpa_nil)))) (dg_tup rfl (dgs_cons (dg_name (i := 2) sc_longest_run.nd rfl (by first | exact Or.inl rfl | exact Or.inr rfl) (by first | exact .inl rfl | exact .inr rfl)) (dgs_cons (dg_name (i := 3) sc_longest_run.nd rfl (by first | exact Or.inl rfl | exact Or.inr rfl) (by first | exact .inl rfl | exact .inr rfl)) dgs_nil))))
      (ds_cons (ds_for PassesOwn.never rfl (die_of (di_enum T.z_enumerate (dp_var 0))) (dg_tup rfl (dgs_cons (dg_name (i := 4) sc_longest_run.nd rfl (by first | exact Or.inl rfl | exact Or.inr rfl) (by first | exact .inl rfl | exact .inr rfl)) (dgs_cons (dg_name (i := 5) sc_longest_run.nd rfl (by first | exact Or.inl rfl | exact Or.inr rfl) (by first | exact .inl rfl | exact .inr rfl)) dgs_nil))) (ds_cons (ds_setP (i := 3) sc_longest_run.nd rfl (by first | exact Or.inl rfl | exact Or.inr rfl) (dp_if (dt_w (dw_or (dt_cmp (m := .bas) (op_eqD hr.units) o_eq (dp_var 4) dp_int (nomark _)) (dw_or1 (dt_cmp (m := .bas) op_ge o_cmp (dp_op op_sub o_sub (dp_var 5) (dp_ix ix_seq o_ix (dp_var 0) (dp_op op_sub o_sub (dp_var 4) dp_int))) (dp_var 1) (nomark _))))) dp_int (dp_op op_addA o_add (dp_var 3) dp_int)))
      (ds_one (ds_setP (i := 2) sc_longest_run.nd rfl (by first | exact Or.inl rfl | exact Or.inr rfl) (dp_b (call_max2 rfl) n_max2 T.z_max boot_max (dpa_cons (dp_var 2) (dpa_cons (dp_var 3) dpa_nil)))))))
      (ds_one (ds_ret (dp_var 2))))))
def c_loosest_1 : Rho → Option D :=
    (lcD (zipI (varD .str 0) (slD (varD .str 0) (soO (kD (.int 1))) noO)) [4, 5] (bTup 2 (bCons (bName 4) (bCons (bName 5) bNil))) yesT (b2D (varD .str 5) (varD .str 4) subD))
def c_loosest_2 : Rho → Option D :=
    (lcD (itD (varD .str 3)) [7] (bName 7) (tstD (chD leD ltD (kD (.int 1)) (varD .bas 7) (kD (.int 1000)))) (varD .str 7))
def l_loosest_1 : Rho → Option Out :=
    (iteF (toT (tstD (b2D (nD (consA (b2D (varD .bas 1) (kD (.int 1)) subD) (consA (nD (consA (varD .bas 0) (consA (varD .bas 6) nilA)) F_longest_run) nilA)) min2D) (varD .bas 2) leD))) (retP (varD .bas 6)) skipF)
def b_loosest : Rho → Option Out :=
    (seqF (setP 3 c_loosest_1)
    (seqF (forF (toI (itD (b2D (nD (consA (kD (.int 1000)) nilA) lstD) (b1D (nD (consA c_loosest_2 nilA) sortedD) revD) addD))) (bName 6) l_loosest_1)
    (retP (kD .none))))
def F_loosest : List D → Option D := runF 3 8 b_loosest
theorem fn_loosest (T : Txt K mg) : Fn P w K mg base 2 "loosest" F_loosest := by
  obtain ⟨f, fd, F, bi, hm⟩ := T.d_loosest.ex
  exact fn_mk F sc_loosest bi hm rfl rfl (fun B cdv A outer s H E hr =>
      (ds_cons (ds_setLc (i := 3) (own := [("time", 4), ("later", 5)]) rfl sc_loosest.nd rfl rfl (sw_true rfl rfl rfl rfl) (dic_of (di_zip T.z_zip (dp_var 0) (dp_slice (dp_var 0) (do_some dp_int) do_none))) (blkOk_by (own := [("time", 4), ("later", 5)]) (N := ["log", "count", "most", "gaps", "time", "later", "idle", "gap"]) (sc := defScope st_loosest) (by decide +kernel)) (by decide) (fun _ _ _ _ _ => (dg_tup rfl (dgs_cons (dg_name (i := 4) sc_loosest.nd rfl (by first | exact Or.inl rfl | exact Or.inr rfl) (by first | exact .inl rfl | exact .inr rfl)) (dgs_cons (dg_name (i := 5) sc_loosest.nd rfl (by first | exact Or.inl rfl | exact Or.inr rfl) (by first | exact .inl rfl | exact .inr rfl)) dgs_nil)))) (fun _ _ _ _ _ => dts_nil) (fun _ _ _ _ _ => (dp_op op_sub o_sub (dp_var 5) (dp_var 4))))
      (ds_cons (ds_for PassesOwn.never rfl (die_of (di_seq (dp_op op_addA o_add (dp_lst (dpa_cons (dp_glob (T.g_MOST_IDLE.choose_spec) ⟨_, rfl⟩) dpa_nil)) (dp_rev (dp_b cr_sortedI n_sorted T.z_sorted boot_sorted (dpa_cons (dp_lc (own := [("gap", 7)]) rfl sc_loosest.nd (dic_of (di_seq (dp_var 3))) (blkOk_by (own := [("gap", 7)]) (N := ["log", "count", "most", "gaps", "time", "later", "idle", "gap"]) (sc := defScope st_loosest) (by decide +kernel)) (by decide) (fun _ _ _ _ _ => (dg_name (i := 7) sc_loosest.nd rfl (by first | exact Or.inl rfl | exact Or.inr rfl) (by first | exact .inl rfl | exact .inr rfl))) (fun _ _ _ _ _ => (dts_one (dt_chain (m := .bas) op_le o_cmp op_lt o_cmp dp_int (dp_var 7) (dp_glob (T.g_MOST_IDLE.choose_spec) ⟨_, rfl⟩)))) (fun _ _ _ _ _ => (dp_var 7))) dpa_nil)))))) (dg_name (i := 6) sc_loosest.nd rfl (by first | exact Or.inl rfl | exact Or.inr rfl) (by first | exact .inl rfl | exact .inr rfl)) (ds_one (ds_if (det_of (dt_cmp (m := .bas) op_le o_cmp (dp_b (call_min2 rfl) n_min2 T.z_min boot_min (dpa_cons (dp_op op_sub o_sub (dp_var 1) dp_int) (dpa_cons (dp_call (fn_longest_run T) hr (by decide) (dpa_cons (dp_var 0) (dpa_cons (dp_var 6) dpa_nil))) dpa_nil))) (dp_var 2) (nomark _))) (ds_one (ds_ret (dp_var 6))) ds_nil)))
      (ds_one (ds_ret dp_none)))))
def c_fewest_saves_1 : Rho → Option D :=
    (lcD (nI (consA (kD (.int 1)) (consA (b2D (kD (.int 20)) (kD (.int 1)) addD) nilA)) rng2) [3] (bName 3) yesT (nD (consA (varD .str 3) (consA (nD (consA (varD .str 0) (consA (varD .str 3) (consA (varD .str 1) nilA))) F_loosest) nilA)) tupD))
def c_fewest_saves_2 : Rho → Option D :=
    (lcD (itD (varD .str 2)) [4] (bName 4) (tstD (b2D (b2D (varD .bas 4) (kD (.int 1)) ixD) (kD .none) notND)) (nD (consA (b2D (nD (consA (varD .str 4) (consA (varD .str 0) nilA)) F_played) (kD (.int 1)) ixD) nilA) lenD))
def b_fewest_saves : Rho → Option Out :=
    (seqF (dropE (toE (nD (consA (varD .str 0) nilA) F_check_log)))
    (seqF (dropE (toE (nD (consA (varD .str 1) (consA (kD (.int 0)) (consA (kD (.int 60)) nilA))) F_check_number)))
    (seqF (setP 2 c_fewest_saves_1)
    (retP (nD (consA c_fewest_saves_2 nilA) minD)))))
def F_fewest_saves : List D → Option D := runF 2 5 b_fewest_saves
theorem fn_fewest_saves (T : Txt K mg) : Fn P w K mg base 4 "fewest_saves" F_fewest_saves := by
  obtain ⟨f, fd, F, bi, hm⟩ := T.d_fewest_saves.ex
  exact fn_mk F sc_fewest_saves bi hm rfl rfl (fun B cdv A outer s H E hr =>
      (ds_cons (ds_expr (de_of (dp_call (fn_check_log T) hr (by decide) (dpa_cons (dp_var 0) dpa_nil))))
      (ds_cons (ds_expr (de_of (dp_call (fn_check_number T) hr (by decide) (dpa_cons (dp_var 1) (dpa_cons dp_int (dpa_cons (dp_glob (T.g_MOST_EDITS.choose_spec) ⟨_, rfl⟩) dpa_nil))))))
      (ds_cons (ds_setLc (i := 2) (own := [("count", 3)]) rfl sc_fewest_saves.nd rfl rfl (sw_true rfl rfl rfl rfl) (dic_of (di_rng2 T.z_range (dpa_cons dp_int (dpa_cons (dp_op op_addA o_add (dp_glob (T.g_MOST_COUNT.choose_spec) ⟨_, rfl⟩) dp_int) dpa_nil)))) (blkOk_by (own := [("count", 3)]) (N := ["log", "most", "rules", "count", "rule"]) (sc := defScope st_fewest_saves) (by decide +kernel)) (by decide) (fun _ _ _ _ _ => (dg_name (i := 3) sc_fewest_saves.nd rfl (by first | exact Or.inl rfl | exact Or.inr rfl) (by first | exact .inl rfl | exact .inr rfl))) (fun _ _ _ _ _ => dts_nil) (fun _ _ _ _ _ => (dp_tup (dpa_cons (dp_var 3) (dpa_cons (dp_call (fn_loosest T) hr (by decide) (dpa_cons (dp_var 0) (dpa_cons (dp_var 3) (dpa_cons (dp_var 1) dpa_nil)))) dpa_nil)))))
      (ds_one (ds_ret (dp_b (cr_min rfl) n_min T.z_min boot_min (dpa_cons (dp_lc (own := [("rule", 4)]) rfl sc_fewest_saves.nd (dic_of (di_seq (dp_var 2))) (blkOk_by (own := [("rule", 4)]) (N := ["log", "most", "rules", "count", "rule"]) (sc := defScope st_fewest_saves) (by decide +kernel)) (by decide) (fun _ _ _ _ _ => (dg_name (i := 4) sc_fewest_saves.nd rfl (by first | exact Or.inl rfl | exact Or.inr rfl) (by first | exact .inl rfl | exact .inr rfl))) (fun _ _ _ _ _ => (dts_one (dt_cmp (m := .bas) op_notN o_notN (dp_ix ix_seq o_ix (dp_var 4) dp_int) dp_none (nomark _)))) (fun _ _ _ _ _ => (dp_b call_len_seq n_len T.z_len PySem.boot_len (dpa_cons (dp_ix ix_seq o_ix (dp_call (fn_played T) hr (by decide) (dpa_cons (dp_var 4) (dpa_cons (dp_var 0) dpa_nil))) dp_int) dpa_nil)))) dpa_nil))))))))
def c_best_rule_1 : Rho → Option D :=
    (lcD (nI (consA (kD (.int 1)) (consA (b2D (kD (.int 20)) (kD (.int 1)) addD) nilA)) rng2) [3] (bName 3) yesT (nD (consA (varD .str 3) (consA (nD (consA (varD .str 0) (consA (varD .str 3) (consA (varD .str 1) nilA))) F_loosest) nilA)) tupD))
def c_best_rule_2 : Rho → Option D :=
    (lcD (itD (varD .str 2)) [4] (bName 4) (tstD (b2D (b2D (varD .bas 4) (kD (.int 1)) ixD) (kD .none) notND)) (nD (consA (nD (consA (b2D (nD (consA (varD .str 4) (consA (varD .str 0) nilA)) F_played) (kD (.int 1)) ixD) nilA) lenD) (consA (varD .str 4) nilA)) tupD))
def b_best_rule : Rho → Option Out :=
    (seqF (dropE (toE (nD (consA (varD .str 0) nilA) F_check_log)))
    (seqF (dropE (toE (nD (consA (varD .str 1) (consA (kD (.int 0)) (consA (kD (.int 60)) nilA))) F_check_number)))
    (seqF (setP 2 c_best_rule_1)
    (retP (b2D (nD (consA c_best_rule_2 nilA) minTD) (kD (.int 1)) ixD)))))
def F_best_rule : List D → Option D := runF 2 5 b_best_rule
theorem fn_best_rule (T : Txt K mg) : Fn P w K mg base 4 "best_rule" F_best_rule := by
  obtain ⟨f, fd, F, bi, hm⟩ := T.d_best_rule.ex
  exact fn_mk F sc_best_rule bi hm rfl rfl (fun B cdv A outer s H E hr =>
      (ds_cons (ds_expr (de_of (dp_call (fn_check_log T) hr (by decide) (dpa_cons (dp_var 0) dpa_nil))))
      (ds_cons (ds_expr (de_of (dp_call (fn_check_number T) hr (by decide) (dpa_cons (dp_var 1) (dpa_cons dp_int (dpa_cons (dp_glob (T.g_MOST_EDITS.choose_spec) ⟨_, rfl⟩) dpa_nil))))))
      (ds_cons (ds_setLc (i := 2) (own := [("count", 3)]) rfl sc_best_rule.nd rfl rfl (sw_true rfl rfl rfl rfl) (dic_of (di_rng2 T.z_range (dpa_cons dp_int (dpa_cons (dp_op op_addA o_add (dp_glob (T.g_MOST_COUNT.choose_spec) ⟨_, rfl⟩) dp_int) dpa_nil)))) (blkOk_by (own := [("count", 3)]) (N := ["log", "most", "rules", "count", "rule"]) (sc := defScope st_best_rule) (by decide +kernel)) (by decide) (fun _ _ _ _ _ => (dg_name (i := 3) sc_best_rule.nd rfl (by first | exact Or.inl rfl | exact Or.inr rfl) (by first | exact .inl rfl | exact .inr rfl))) (fun _ _ _ _ _ => dts_nil) (fun _ _ _ _ _ => (dp_tup (dpa_cons (dp_var 3) (dpa_cons (dp_call (fn_loosest T) hr (by decide) (dpa_cons (dp_var 0) (dpa_cons (dp_var 3) (dpa_cons (dp_var 1) dpa_nil)))) dpa_nil)))))
      (ds_one (ds_ret (dp_ix ix_seq o_ix (dp_b (cr_minT rfl hr.units) n_minT T.z_min boot_min (dpa_cons (dp_lc (own := [("rule", 4)]) rfl sc_best_rule.nd (dic_of (di_seq (dp_var 2))) (blkOk_by (own := [("rule", 4)]) (N := ["log", "most", "rules", "count", "rule"]) (sc := defScope st_best_rule) (by decide +kernel)) (by decide) (fun _ _ _ _ _ => (dg_name (i := 4) sc_best_rule.nd rfl (by first | exact Or.inl rfl | exact Or.inr rfl) (by first | exact .inl rfl | exact .inr rfl))) (fun _ _ _ _ _ => (dts_one (dt_cmp (m := .bas) op_notN o_notN (dp_ix ix_seq o_ix (dp_var 4) dp_int) dp_none (nomark _)))) (fun _ _ _ _ _ => (dp_tup (dpa_cons (dp_b call_len_seq n_len T.z_len PySem.boot_len (dpa_cons (dp_ix ix_seq o_ix (dp_call (fn_played T) hr (by decide) (dpa_cons (dp_var 4) (dpa_cons (dp_var 0) dpa_nil))) dp_int) dpa_nil)) (dpa_cons (dp_var 4) dpa_nil))))) dpa_nil)) dp_int)))))))
def b_law_well : Rho → Option Out :=
    (seqF (iteF (toT (tstD (b2D (varD .bas 0) (b2D (kD (.int 10)) (kD (.int 18)) powD) geD))) (retP (nD (consA (b2D (varD .bas 0) (b2D (kD (.int 10)) (kD (.int 18)) powD) subD) (consA (b2D (varD .bas 0) (kD (.int 2305843009213693951)) modD) (consA (varD .bas 1) nilA))) lstD)) skipF)
    (retP (nD (consA (kD (.int 0)) (consA (b2D (varD .bas 0) (kD (.int 2305843009213693951)) modD) (consA (varD .bas 1) nilA))) lstD)))
def F_law_well : List D → Option D := runF 2 2 b_law_well
theorem fn_law_well (T : Txt K mg) : Fn P w K mg base 1 "_law_well" F_law_well := by
  obtain ⟨f, fd, F, bi, hm⟩ := T.d_law_well.ex
  exact fn_mk F sc_law_well bi hm rfl rfl (fun B cdv A outer s H E hr =>
      (ds_cons (ds_if (det_of (dt_cmp (m := .bas) op_ge o_cmp (dp_var 0) (dp_op op_pow o_pow dp_int dp_int) (nomark _))) (ds_one (ds_ret (dp_lst (dpa_cons (dp_op op_sub o_sub (dp_var 0) (dp_op op_pow o_pow dp_int dp_int)) (dpa_cons (dp_op op_mod o_mod (dp_var 0) dp_int) (dpa_cons (dp_var 1) dpa_nil)))))) ds_nil)
      (ds_one (ds_ret (dp_lst (dpa_cons dp_int (dpa_cons (dp_op op_mod o_mod (dp_var 0) dp_int) (dpa_cons (dp_var 1) dpa_nil))))))))
def b_law_take : Rho → Option Out :=
    (seqF (iteF (toT (tstD (b2D (ixO 0 (kD (.int 0))) (kD (.int 0)) gtD))) (seqF (setP 2 (b2D (ixO 0 (kD (.int 0))) (varD .str 1) modD))
    (seqF (subF 0 (kD (.int 0)) (b2D (ixO 0 (kD (.int 0))) (varD .str 1) fdivD))
    (retP (varD .bas 2)))) skipF)
    (seqF (subF 0 (kD (.int 2)) (b2D (ixO 0 (kD (.int 2))) (kD (.int 1)) addD))
    (seqF (setP 3 (kD (.int 2305843009213693951)))
    (seqF (setP 4 (b2D (b2D (ixO 0 (kD (.int 1))) (b2D (kD (.int 1000003)) (ixO 0 (kD (.int 2))) mulT) addD) (varD .str 3) modD))
    (seqF (setP 4 (b2D (b2D (b2D (b2D (varD .str 4) (varD .str 4) mulT) (b2D (kD (.int 7919)) (b2D (ixO 0 (kD (.int 2))) (kD (.int 2)) powD) mulT) addD) (kD (.int 5)) addD) (varD .str 3) modD))
    (retP (b2D (b2D (b2D (b2D (varD .bas 4) (kD (.int 3)) powD) (varD .bas 3) modD) (kD (.int 13)) fdivD) (varD .bas 1) modD)))))))
def F_law_take : List D → List D → Option (D × List D) := runB 1 5 b_law_take
theorem fn_law_take (T : Txt K mg) : BFn P w K mg base 1 "_law_take" F_law_take := by
  obtain ⟨f, fd, F, bi, hm⟩ := T.d_law_take.ex
  exact bfn_mk F sc_law_take bi hm rfl rfl (fun B cdv A outer s H E hr =>
      (ds_cons (ds_if (det_of (dt_cmp (m := .bas) op_gt o_cmp (dp_ixO (i := 0) rfl dp_int) dp_int (nomark _))) (ds_cons (ds_setP (i := 2) sc_law_take.nd rfl (by first | exact Or.inl rfl | exact Or.inr rfl) (dp_op op_mod o_mod (dp_ixO (i := 0) rfl dp_int) (dp_var 1)))
      (ds_cons (ds_sub (i := 0) rfl dp_int (dp_op op_fdivW o_fdiv (dp_ixO (i := 0) rfl dp_int) (dp_var 1)))
      (ds_one (ds_ret (dp_var 2))))) ds_nil)
      (ds_cons (ds_sub (i := 0) rfl dp_int (dp_op op_addA o_add (dp_ixO (i := 0) rfl dp_int) dp_int))
      (ds_cons (ds_setP (i := 3) sc_law_take.nd rfl (by first | exact Or.inl rfl | exact Or.inr rfl) dp_int)
      (ds_cons (ds_setP (i := 4) sc_law_take.nd rfl (by first | exact Or.inl rfl | exact Or.inr rfl) (dp_op op_mod o_mod (dp_op op_addA o_add (dp_ixO (i := 0) rfl dp_int) (dp_op op_mulT o_mulT dp_int (dp_ixO (i := 0) rfl dp_int))) (dp_var 3)))
      (ds_cons (ds_setP (i := 4) sc_law_take.nd rfl (by first | exact Or.inl rfl | exact Or.inr rfl) (dp_op op_mod o_mod (dp_op op_addA o_add (dp_op op_addA o_add (dp_op op_mulT o_mulT (dp_var 4) (dp_var 4)) (dp_op op_mulT o_mulT dp_int (dp_op op_pow o_pow (dp_ixO (i := 0) rfl dp_int) dp_int))) dp_int) (dp_var 3)))
      (ds_one (ds_ret (dp_op op_mod o_mod (dp_op op_fdivW o_fdiv (dp_op op_mod o_mod (dp_op op_pow o_pow (dp_var 4) dp_int) (dp_var 3)) dp_int) (dp_var 1))))))))))
theorem well_F (c t : Int) : F_law_well [.int c, .int t] = some (.list (intsD (wellL c t))) := by
  unfold wellL F_law_well b_law_well
  by_cases h : (1000000000000000000 : Int) ≤ c <;> simp [intsD, h]
theorem bags_fn (T : Txt K mg) : BagsFn P w K mg base 2 := by
  obtain ⟨f, fd, F, bi, hm⟩ := T.d_law_bags.ex
  obtain ⟨fw, fdw, psw, GW, hmw, kpw, biw⟩ := (fn_law_well (P := P) (w := w) (base := base) T).ex
  refine ⟨f, fd, ["_law_script", "_law_most"], F.ok sc_law_bags (fun vs H Q E h => ?_) (fun cdv A outer s H vs Q E hr h => ?_), hm, F.kp, bi⟩
  · obtain ⟨a, ns, n, rfl, _⟩ := h
    rfl
  · obtain ⟨a, ns, n, rfl, h'⟩ := id h
    have der : PSs (cxOf CX0 P w K mg base ["_law_script", "_law_most", "_law_k", "_law_cell"] "_law_bags" (defScope st_law_bags) f cdv A outer s H E).nox (defBody st_law_bags)
        (tRet (tLc (iEnum K (tCons (tOp (rAddA K) (tSl (rSlL K) (tVar 0) tNoPart (tPart (tVar 1))) (tLst (tCons (tC (.int 0)) tNil))) tNil)) (gTup K 2 (gCons (gName 2) (gCons (gName 3) gNil))) tYes
          (tCall (spP F_law_well) [] E0 (tCons (tVar 3) (tCons (tOp (rI CMul fun i j => .int (i * j)) (tC (.int 977)) (tVar 2)) tNil))) [2, 3])) :=
      pss_one (ps_ret (pe_lc (own := [("_law_k", 2), ("_law_cell", 3)]) rfl sc_law_bags.nd
      (pi_enum rfl T.z_enumerate (pa_cons (pe_op op_addA (pe_slice sl_list (pv 0) po_none (po_some (pv 1))) (pe_lst (pa_cons pe_int pa_nil))) pa_nil))
      (blkOk_by (own := [("_law_k", 2), ("_law_cell", 3)]) (N := ["_law_script", "_law_most", "_law_k", "_law_cell"]) (sc := defScope st_law_bags) (by decide +kernel))
      (fun _ _ _ _ _ => pg_tup rfl (pgs_cons (pg_name (i := 2) sc_law_bags.nd rfl (Or.inl rfl)) (pgs_cons (pg_name (i := 3) sc_law_bags.nd rfl (Or.inl rfl)) pgs_nil)))
      (fun _ _ _ _ _ => pts_nil)
      (fun _ _ _ _ _ => pe_call GW hr rfl hmw kpw biw .nil pass0 (pa_cons (pv 3) (pa_cons (pe_op op_mul pe_int (pv 2)) pa_nil)))))
    exact ⟨_, der, bags_read well_F h rfl⟩
def b_law_same (F_law_same : List D → Option D) : Rho → Option Out :=
    (seqF (iteF (toT (orT (andT (tstD (b1D (varD .bas 0) (isTyD .list))) (tstD (b1D (varD .bas 1) (isTyD .list)))) (andT (tstD (b1D (varD .bas 0) (isTyD .tuple))) (tstD (b1D (varD .bas 1) (isTyD .tuple)))))) (retP (andV (b2D (nD (consA (varD .bas 0) nilA) lenD) (nD (consA (varD .bas 1) nilA) lenD) eqD) (nD (consA (lcD (zipI (varD .str 0) (varD .str 1)) [2, 3] (bTup 2 (bCons (bName 2) (bCons (bName 3) bNil))) yesT (nD (consA (varD .str 2) (consA (varD .str 3) nilA)) F_law_same)) nilA) allD))) skipF)
    (seqF (iteF (toT (orT (tstD (b1D (varD .bas 0) (isAnyD [.bool, .list, .tuple]))) (tstD (b1D (varD .bas 1) (isAnyD [.bool, .list, .tuple]))))) (retP (andV (b1D (varD .bas 0) (isTyD .bool)) (andV (b1D (varD .bas 1) (isTyD .bool)) (b2D (varD .bas 0) (varD .bas 1) eqD)))) skipF)
    (seqF (iteF (toT (orT (tstD (b1D (varD .bas 0) (isTyD .int))) (tstD (b1D (varD .bas 1) (isTyD .int))))) (retP (andV (b1D (varD .bas 0) (isTyD .int)) (andV (b1D (varD .bas 1) (isTyD .int)) (b2D (varD .bas 0) (varD .bas 1) eqD)))) skipF)
    (seqF (iteF (toT (orT (tstD (b1D (varD .bas 0) (isTyD .str))) (tstD (b1D (varD .bas 1) (isTyD .str))))) (retP (andV (b1D (varD .bas 0) (isTyD .str)) (andV (b1D (varD .bas 1) (isTyD .str)) (b2D (varD .bas 0) (varD .bas 1) eqD)))) skipF)
    (retP (andV (b2D (varD .bas 0) (kD .none) isND) (b2D (varD .bas 1) (kD .none) isND)))))))
def F_law_same : Nat → List D → Option D
  | 0 => fun _ => none
  | j + 1 => runF 2 4 (b_law_same (F_law_same j))
theorem fn_law_same_z (T : Txt K mg) : Fn P w K mg base 1 "_law_same" (F_law_same 0) := by
  obtain ⟨f, fd, F, bi, hm⟩ := T.d_law_same.ex
  exact fn_zero F sc_law_same bi hm
theorem fn_law_same_r (T : Txt K mg) : ∀ j, Fn P w K mg base (1 + j) "_law_same" (F_law_same j)
  | 0 => (fn_law_same_z T).mono (by omega)
  | j + 1 => by
    obtain ⟨f, fd, F, bi, hm⟩ := T.d_law_same.ex
    exact fn_mk F sc_law_same bi hm rfl rfl (fun B cdv A outer s H E hr =>
      have ih := fn_law_same_r T j; (ds_cons (ds_if (det_of (dt_w (dw_or (dt_w (dw_and (dt_val (m := .bas) (dp_isi (T := .list) T.z_isinstance T.z_list rfl (dp_var 0))) (dw_and1 (dt_val (m := .bas) (dp_isi (T := .list) T.z_isinstance T.z_list rfl (dp_var 1)))))) (dw_or1 (dt_w (dw_and (dt_val (m := .bas) (dp_isi (T := .tuple) T.z_isinstance T.z_tuple rfl (dp_var 0))) (dw_and1 (dt_val (m := .bas) (dp_isi (T := .tuple) T.z_isinstance T.z_tuple rfl (dp_var 1)))))))))) (ds_one (ds_ret (dp_and (dp_cmp (op_eqD hr.units) o_eq (dp_b call_len_seq n_len T.z_len PySem.boot_len (dpa_cons (dp_var 0) dpa_nil)) (dp_b call_len_seq n_len T.z_len PySem.boot_len (dpa_cons (dp_var 1) dpa_nil)) (nomark _)) (dp_one (dp_b (cr_all rfl) n_all T.z_all boot_all (dpa_cons (dp_lc (own := [("_law_x", 2), ("_law_y", 3)]) rfl sc_law_same.nd (dic_of (di_zip T.z_zip (dp_var 0) (dp_var 1))) (blkOk_by (own := [("_law_x", 2), ("_law_y", 3)]) (N := ["_law_a", "_law_b", "_law_x", "_law_y"]) (sc := defScope st_law_same) (by decide +kernel)) (by decide) (fun _ _ _ _ _ => (dg_tup rfl (dgs_cons (dg_name (i := 2) sc_law_same.nd rfl (by first | exact Or.inl rfl | exact Or.inr rfl) (by first | exact .inl rfl | exact .inr rfl)) (dgs_cons (dg_name (i := 3) sc_law_same.nd rfl (by first | exact Or.inl rfl | exact Or.inr rfl) (by first | exact .inl rfl | exact .inr rfl)) dgs_nil)))) (fun _ _ _ _ _ => dts_nil) (fun _ _ _ _ _ => (dp_call ih hr (Nat.le_refl _) (dpa_cons (dp_var 2) (dpa_cons (dp_var 3) dpa_nil))))) dpa_nil)))))) ds_nil)
      (ds_cons (ds_if (det_of (dt_w (dw_or (dt_val (m := .bas) (dp_isi3 (T1 := .bool) (T2 := .list) (T3 := .tuple) T.z_isinstance T.z_bool T.z_list T.z_tuple rfl rfl rfl (dp_var 0))) (dw_or1 (dt_val (m := .bas) (dp_isi3 (T1 := .bool) (T2 := .list) (T3 := .tuple) T.z_isinstance T.z_bool T.z_list T.z_tuple rfl rfl rfl (dp_var 1))))))) (ds_one (ds_ret (dp_and (dp_isi (T := .bool) T.z_isinstance T.z_bool rfl (dp_var 0)) (dp_and (dp_isi (T := .bool) T.z_isinstance T.z_bool rfl (dp_var 1)) (dp_one (dp_cmp (op_eqD hr.units) o_eq (dp_var 0) (dp_var 1) (nomark _))))))) ds_nil)
      (ds_cons (ds_if (det_of (dt_w (dw_or (dt_val (m := .bas) (dp_isi (T := .int) T.z_isinstance T.z_int rfl (dp_var 0))) (dw_or1 (dt_val (m := .bas) (dp_isi (T := .int) T.z_isinstance T.z_int rfl (dp_var 1))))))) (ds_one (ds_ret (dp_and (dp_isi (T := .int) T.z_isinstance T.z_int rfl (dp_var 0)) (dp_and (dp_isi (T := .int) T.z_isinstance T.z_int rfl (dp_var 1)) (dp_one (dp_cmp (op_eqD hr.units) o_eq (dp_var 0) (dp_var 1) (nomark _))))))) ds_nil)
      (ds_cons (ds_if (det_of (dt_w (dw_or (dt_val (m := .bas) (dp_isi (T := .str) T.z_isinstance T.z_str rfl (dp_var 0))) (dw_or1 (dt_val (m := .bas) (dp_isi (T := .str) T.z_isinstance T.z_str rfl (dp_var 1))))))) (ds_one (ds_ret (dp_and (dp_isi (T := .str) T.z_isinstance T.z_str rfl (dp_var 0)) (dp_and (dp_isi (T := .str) T.z_isinstance T.z_str rfl (dp_var 1)) (dp_one (dp_cmp (op_eqD hr.units) o_eq (dp_var 0) (dp_var 1) (nomark _))))))) ds_nil)
      (ds_one (ds_ret (dp_and (dp_cmp op_isN o_isN (dp_var 0) dp_none (nomark _)) (dp_one (dp_cmp op_isN o_isN (dp_var 1) dp_none (nomark _)))))))))))
def l_law_log_1 : Rho → Option Out :=
    (seqF (setF 6 (nE (consEA (toE (kD (.int 0))) (consEA (b2E (b2E (toE (b2D (varD .str 2) (kD (.int 1)) ixD)) (drwE 0 (consEA (toE (kD (.int 5))) nilEA) F_law_take) addD) (toE (kD (.int 2))) subD) nilEA)) max2D))
    (seqF (setF 4 (b2E (toE (varD .str 4)) (b2E (nE (consEA (toE (kD (.int 0))) (consEA (drwE 0 (consEA (toE (kD (.int 4))) nilEA) F_law_take) (consEA (toE (varD .str 6)) (consEA (drwE 0 (consEA (toE (b2D (b2D (varD .str 2) (kD (.int 1)) ixD) (kD (.int 2)) addD)) nilEA) F_law_take) nilEA)))) lstD) (drwE 0 (consEA (toE (kD (.int 4))) nilEA) F_law_take) ixD) addD))
    (setP 3 (b2D (varD .str 3) (nD (consA (varD .str 4) nilA) tupD) addD))))
def b_law_log : Rho → Option Out :=
    (seqF (parF2 3 4 (consEA (toE (nD nilA tupD)) (consEA (drwE 0 (consEA (toE (kD (.int 9))) nilEA) F_law_take) nilEA)))
    (seqF (forF (nIE (consEA (drwE 0 (consEA (toE (b2D (varD .str 1) (kD (.int 1)) addD)) nilEA) F_law_take) nilEA) rng1) (bName 5) l_law_log_1)
    (retP (varD .bas 3))))
def F_law_log : List D → List D → Option (D × List D) := runB 2 7 b_law_log
theorem fn_law_log (T : Txt K mg) : BFn P w K mg base 2 "_law_log" F_law_log := by
  obtain ⟨f, fd, F, bi, hm⟩ := T.d_law_log.ex
  exact bfn_mk F sc_law_log bi hm rfl rfl (fun B cdv A outer s H E hr =>
      (ds_cons (ds_par rfl sc_law_log.nd rfl rfl (by decide) rfl rfl (dea_cons (de_of (dp_tup dpa_nil)) (dea_cons (de_drw (i := 0) (fn_law_take T) hr (by decide) rfl (dea_cons (de_of dp_int) dea_nil)) dea_nil)) rfl)
      (ds_cons (ds_for PassesOwn.never rfl (die_rng1 T.z_range (dea_cons (de_drw (i := 0) (fn_law_take T) hr (by decide) rfl (dea_cons (de_of (dp_op op_addA o_add (dp_var 1) dp_int)) dea_nil)) dea_nil)) (dg_name (i := 5) sc_law_log.nd rfl (by first | exact Or.inl rfl | exact Or.inr rfl) (by first | exact .inl rfl | exact .inr rfl)) (ds_cons (ds_set (i := 6) sc_law_log.nd rfl (by first | exact Or.inl rfl | exact Or.inr rfl) (de_b (call_max2 rfl) n_max2 T.z_max boot_max (dea_cons (de_of dp_int) (dea_cons (de_op op_sub o_sub (de_op op_addA o_add (de_of (dp_ix ix_seq o_ix (dp_var 2) dp_int)) (de_drw (i := 0) (fn_law_take T) hr (by decide) rfl (dea_cons (de_of dp_int) dea_nil))) (de_of dp_int)) dea_nil))))
      (ds_cons (ds_set (i := 4) sc_law_log.nd rfl (by first | exact Or.inl rfl | exact Or.inr rfl) (de_op op_addA o_add (de_of (dp_var 4)) (de_ix ix_seq o_ix (de_lst (dea_cons (de_of dp_int) (dea_cons (de_drw (i := 0) (fn_law_take T) hr (by decide) rfl (dea_cons (de_of dp_int) dea_nil)) (dea_cons (de_of (dp_var 6)) (dea_cons (de_drw (i := 0) (fn_law_take T) hr (by decide) rfl (dea_cons (de_of (dp_op op_addA o_add (dp_ix ix_seq o_ix (dp_var 2) dp_int) dp_int)) dea_nil)) dea_nil))))) (de_drw (i := 0) (fn_law_take T) hr (by decide) rfl (dea_cons (de_of dp_int) dea_nil)))))
      (ds_one (ds_setP (i := 3) sc_law_log.nd rfl (by first | exact Or.inl rfl | exact Or.inr rfl) (dp_op op_addA o_add (dp_var 3) (dp_tup (dpa_cons (dp_var 4) dpa_nil))))))))
      (ds_one (ds_ret (dp_var 3))))))
def l_law_play_1 : Rho → Option Out :=
    (seqF (iteF (toT (andT (tstD (b2D (varD .bas 4) (nD nilA lstD) neD)) (tstD (b2D (b2D (varD .bas 1) (varD .bas 7) ixD) (b2D (b2D (varD .bas 1) (b2D (varD .bas 4) (b1D (kD (.int 1)) negD) ixD) ixD) (varD .bas 3) addD) geD)))) (seqF (appF 6 (nD (consA (b2D (b2D (varD .str 1) (b2D (varD .str 4) (b1D (kD (.int 1)) negD) ixD) ixD) (varD .str 3) addD) (consA (kD (.str "idle")) nilA)) tupD))
    (setP 4 (nD nilA lstD))) skipF)
    (seqF (setP 4 (b2D (varD .str 4) (nD (consA (varD .str 7) nilA) lstD) addD))
    (seqF (iteF (toT (tstD (b2D (nD (consA (varD .bas 4) nilA) lenD) (varD .bas 2) geD))) (seqF (appF 6 (nD (consA (b2D (varD .str 1) (varD .str 7) ixD) (consA (kD (.str "count")) nilA)) tupD))
    (setP 4 (nD nilA lstD))) skipF)
    (appF 5 (varD .str 4)))))
def b_law_play : Rho → Option Out :=
    (seqF (asgF (toE (varD .str 0)) (bTup 2 (bCons (bName 2) (bCons (bName 3) bNil))))
    (seqF (parDOO 4 5 6 (nD nilA lstD))
    (seqF (forF (toI (nI (consA (nD (consA (varD .str 1) nilA) lenD) nilA) rng1)) (bName 7) l_law_play_1)
    (seqF (iteF (toT (tstD (b2D (varD .bas 4) (nD nilA lstD) neD))) (appF 6 (nD (consA (b2D (b2D (varD .str 1) (b2D (varD .str 4) (b1D (kD (.int 1)) negD) ixD) ixD) (varD .str 3) addD) (consA (kD (.str "idle")) nilA)) tupD)) skipF)
    (retP (nD (consA (varD .bas 5) (consA (varD .bas 6) nilA)) tupD))))))
def F_law_play : List D → Option D := runF 2 8 b_law_play
theorem fn_law_play (T : Txt K mg) : Fn P w K mg base 1 "_law_play" F_law_play := by
  obtain ⟨f, fd, F, bi, hm⟩ := T.d_law_play.ex
  exact fn_mk F sc_law_play bi hm rfl rfl (fun B cdv A outer s H E hr =>
      (ds_cons (ds_asg (de_of (dp_var 0)) (dg_tup rfl (dgs_cons (dg_name (i := 2) sc_law_play.nd rfl (by first | exact Or.inl rfl | exact Or.inr rfl) (by first | exact .inl rfl | exact .inr rfl)) (dgs_cons (dg_name (i := 3) sc_law_play.nd rfl (by first | exact Or.inl rfl | exact Or.inr rfl) (by first | exact .inl rfl | exact .inr rfl)) dgs_nil))))
      (ds_cons (ds_parDOO rfl sc_law_play.nd rfl rfl rfl (by decide) (by decide) (by decide) rfl rfl rfl (dp_lst dpa_nil) rfl)
      (ds_cons (ds_for PassesOwn.never rfl (die_of (di_rng1 T.z_range (dpa_cons (dp_b call_len_seq n_len T.z_len PySem.boot_len (dpa_cons (dp_var 1) dpa_nil)) dpa_nil))) (dg_name (i := 7) sc_law_play.nd rfl (by first | exact Or.inl rfl | exact Or.inr rfl) (by first | exact .inl rfl | exact .inr rfl)) (ds_cons (ds_if (det_of (dt_w (dw_and (dt_cmp (m := .bas) (op_neD hr.units) o_ne (dp_var 4) (dp_lst dpa_nil) (nomark _)) (dw_and1 (dt_cmp (m := .bas) op_ge o_cmp (dp_ix ix_seq o_ix (dp_var 1) (dp_var 7)) (dp_op op_addA o_add (dp_ix ix_seq o_ix (dp_var 1) (dp_ix ix_seq o_ix (dp_var 4) (dp_un un_neg o_neg dp_int))) (dp_var 3)) (nomark _)))))) (ds_cons (ds_app (i := 6) rfl (dp_tup (dpa_cons (dp_op op_addA o_add (dp_ix ix_seq o_ix (dp_var 1) (dp_ix ix_seq o_ix (dp_var 4) (dp_un un_neg o_neg dp_int))) (dp_var 3)) (dpa_cons dp_str dpa_nil))))
      (ds_one (ds_setP (i := 4) sc_law_play.nd rfl (by first | exact Or.inl rfl | exact Or.inr rfl) (dp_lst dpa_nil)))) ds_nil)
      (ds_cons (ds_setP (i := 4) sc_law_play.nd rfl (by first | exact Or.inl rfl | exact Or.inr rfl) (dp_op op_addA o_add (dp_var 4) (dp_lst (dpa_cons (dp_var 7) dpa_nil))))
      (ds_cons (ds_if (det_of (dt_cmp (m := .bas) op_ge o_cmp (dp_b call_len_seq n_len T.z_len PySem.boot_len (dpa_cons (dp_var 4) dpa_nil)) (dp_var 2) (nomark _))) (ds_cons (ds_app (i := 6) rfl (dp_tup (dpa_cons (dp_ix ix_seq o_ix (dp_var 1) (dp_var 7)) (dpa_cons dp_str dpa_nil))))
      (ds_one (ds_setP (i := 4) sc_law_play.nd rfl (by first | exact Or.inl rfl | exact Or.inr rfl) (dp_lst dpa_nil)))) ds_nil)
      (ds_one (ds_app (i := 5) rfl (dp_var 4)))))))
      (ds_cons (ds_if (det_of (dt_cmp (m := .bas) (op_neD hr.units) o_ne (dp_var 4) (dp_lst dpa_nil) (nomark _))) (ds_one (ds_app (i := 6) rfl (dp_tup (dpa_cons (dp_op op_addA o_add (dp_ix ix_seq o_ix (dp_var 1) (dp_ix ix_seq o_ix (dp_var 4) (dp_un un_neg o_neg dp_int))) (dp_var 3)) (dpa_cons dp_str dpa_nil))))) ds_nil)
      (ds_one (ds_ret (dp_tup (dpa_cons (dp_var 5) (dpa_cons (dp_var 6) dpa_nil))))))))))
def c_law_idles_1 : Rho → Option D :=
    (lcD (zipI (varD .str 0) (slD (varD .str 0) (soO (kD (.int 1))) noO)) [2, 3] (bTup 2 (bCons (bName 2) (bCons (bName 3) bNil))) yesT (b2D (varD .str 3) (varD .str 2) subD))
def c_law_idles_2 : Rho → Option D :=
    (lcD (itD (varD .str 1)) [4] (bName 4) (tstD (chD leD leD (kD (.int 1)) (varD .bas 4) (kD (.int 1000)))) (varD .str 4))
def b_law_idles : Rho → Option Out :=
    (seqF (setP 1 c_law_idles_1)
    (retP (nD (consA (b2D (nD (consA (kD (.int 1)) (consA (kD (.int 1000)) nilA)) lstD) c_law_idles_2 addD) nilA) ssetD)))
def F_law_idles : List D → Option D := runF 1 5 b_law_idles
theorem fn_law_idles (T : Txt K mg) : Fn P w K mg base 1 "_law_idles" F_law_idles := by
  obtain ⟨f, fd, F, bi, hm⟩ := T.d_law_idles.ex
  exact fn_mk F sc_law_idles bi hm rfl rfl (fun B cdv A outer s H E hr =>
      (ds_cons (ds_setLc (i := 1) (own := [("_law_time", 2), ("_law_later", 3)]) rfl sc_law_idles.nd rfl rfl (sw_true rfl rfl rfl rfl) (dic_of (di_zip T.z_zip (dp_var 0) (dp_slice (dp_var 0) (do_some dp_int) do_none))) (blkOk_by (own := [("_law_time", 2), ("_law_later", 3)]) (N := ["_law_log_here", "_law_gaps", "_law_time", "_law_later", "_law_gap"]) (sc := defScope st_law_idles) (by decide +kernel)) (by decide) (fun _ _ _ _ _ => (dg_tup rfl (dgs_cons (dg_name (i := 2) sc_law_idles.nd rfl (by first | exact Or.inl rfl | exact Or.inr rfl) (by first | exact .inl rfl | exact .inr rfl)) (dgs_cons (dg_name (i := 3) sc_law_idles.nd rfl (by first | exact Or.inl rfl | exact Or.inr rfl) (by first | exact .inl rfl | exact .inr rfl)) dgs_nil)))) (fun _ _ _ _ _ => dts_nil) (fun _ _ _ _ _ => (dp_op op_sub o_sub (dp_var 3) (dp_var 2))))
      (ds_one (ds_ret (dp_sset rfl T.z_sorted T.z_set (dp_op op_addA o_add (dp_lst (dpa_cons dp_int (dpa_cons dp_int dpa_nil))) (dp_lc (own := [("_law_gap", 4)]) rfl sc_law_idles.nd (dic_of (di_seq (dp_var 1))) (blkOk_by (own := [("_law_gap", 4)]) (N := ["_law_log_here", "_law_gaps", "_law_time", "_law_later", "_law_gap"]) (sc := defScope st_law_idles) (by decide +kernel)) (by decide) (fun _ _ _ _ _ => (dg_name (i := 4) sc_law_idles.nd rfl (by first | exact Or.inl rfl | exact Or.inr rfl) (by first | exact .inl rfl | exact .inr rfl))) (fun _ _ _ _ _ => (dts_one (dt_chain (m := .bas) op_le o_cmp op_le o_cmp dp_int (dp_var 4) dp_int))) (fun _ _ _ _ _ => (dp_var 4)))))))))
def c_law_1 : Rho → Option D :=
    (lcD (itD (varD .str 10)) [12] (bName 12) yesT (nD (consA (varD .str 12) nilA) lenD))
def l_law_1 : Rho → Option Out :=
    (seqF (asgF (toE (nD (consA (nD (consA (varD .str 6) (consA (varD .str 9) nilA)) tupD) (consA (varD .str 2) nilA)) F_law_play)) (bTup 2 (bCons (bName 10) (bCons (bName 11) bNil))))
    (iteF (toT (tstD (b2D (nD (consA (b2D (nD (consA (kD (.int 0)) nilA) lstD) c_law_1 addD) nilA) maxD) (varD .bas 4) leD))) (appF 5 (nD (consA (varD .str 11) nilA) lenD)) skipF))
def l_law_2 : Rho → Option Out :=
    (forF (toI (itD (nD (consA (varD .str 2) nilA) F_law_idles))) (bName 9) l_law_1)
def l_law_3 : Rho → Option Out :=
    (seqF (setO 5 (nD nilA lstD))
    (seqF (forF (toI (nI (consA (kD (.int 1)) (consA (kD (.int 21)) nilA)) rng2)) (bName 6) l_law_2)
    (seqF (setP 7 (nD (consA (varD .str 2) (consA (varD .str 4) nilA)) F_fewest_saves))
    (seqF (iteF (toT (notT (tstD (nD (consA (varD .bas 7) (consA (nD (consA (varD .bas 5) nilA) minD) nilA)) (F_law_same 8))))) (retP (kD (.bool false))) skipF)
    (seqF (setP 8 (nD (consA (varD .str 2) (consA (varD .str 4) nilA)) F_best_rule))
    (seqF (iteF (toT (orT (notT (tstD (nD (consA (varD .bas 8) nilA) F_is_rule))) (orT (tstD (b2D (nD (consA (varD .bas 8) (consA (varD .bas 2) nilA)) F_most_unsaved) (varD .bas 4) gtD)) (tstD (b2D (nD (consA (nD (consA (varD .bas 8) (consA (varD .bas 2) nilA)) F_saves) nilA) lenD) (varD .bas 7) neD))))) (retP (kD (.bool false))) skipF)
    (seqF (iteF (toT (andT (tstD (b2D (varD .bas 3) (kD .none) notND)) (tstD (b2D (varD .bas 7) (varD .bas 3) gtD)))) (retP (kD (.bool false))) skipF)
    (setP 3 (varD .str 7)))))))))
def b_lawbody : Rho → Option Out :=
    (seqF (setF 2 (drwE 1 (consEA (toE (kD (.int 25))) (consEA (nE (consEA (toE (kD (.int 1))) (consEA (b2E (toE (kD (.int 1))) (drwE 1 (consEA (toE (kD (.int 12))) nilEA) F_law_take) addD) nilEA)) tupD) nilEA)) F_law_log))
    (seqF (setP 3 (kD .none))
    (forF (itE (nE (consEA (nE (consEA (toE (kD (.int 0))) (consEA (toE (kD (.int 1))) (consEA (drwE 1 (consEA (toE (kD (.int 6))) nilEA) F_law_take) (consEA (drwE 1 (consEA (toE (kD (.int 25))) nilEA) F_law_take) nilEA)))) lstD) nilEA) ssetD)) (bName 4) l_law_3)))
def b_law (a : Addr) (ns : List Int) : Rho → Option Out :=
    (seqF (lawF 1 0 5 a ns b_lawbody)
    (retP (andV (b2D (nD (consA (nD (consA (kD (.int 0)) (consA (kD (.int 2)) (consA (kD (.int 4)) (consA (kD (.int 20)) (consA (kD (.int 25)) (consA (kD (.int 40)) nilA)))))) tupD) (consA (kD (.int 2)) nilA)) F_fewest_saves) (kD (.int 2)) eqD) (b2D (nD (consA (nD nilA tupD) (consA (kD (.int 0)) nilA)) F_fewest_saves) (kD (.int 0)) eqD))))
theorem ok_law {f : Addr} {fd : FuncData} (F : L2.Fun K "law" "law" st_law f fd) (T : Txt K mg) (hw : ∀ (a : Addr) (ns : List Int), ns.length ≤ 63 → ∃ ρ', b_law a ns (.raw (.ref a) :: List.replicate 12 .nil) = some (.rt (.bool true) ρ')) :
    FnOk P w K mg base CX0 11 f fd ["_law_script"] (spLaw K) := by
  refine F.ok sc_law (fun vs H Q E h => ?_) (fun cdv A outer s H vs Q E hr h => ?_)
  · obtain ⟨a, ns, rfl, _⟩ := h
    rfl
  · obtain ⟨a, ns, rfl, hS, hns, q⟩ := h
    obtain ⟨ρ', e⟩ := hw a ns hns
    generalize hB : (⟨H, fun _ => False, fun _ => False⟩ : Base) = B
    have hR : ∀ b, ¬ B.R b := by subst hB; exact fun _ z => z
    have hO : ∀ b, ¬ B.O0 b := by subst hB; exact fun _ z => z
    have hS : SqL K B.H0 a (ns.map V.int) := by subst hB; exact hS
    have der : DSs (cxOf CX0 P w K mg base ["_law_script", "_law_bag", "_law_log_here", "_law_before", "_law_most", "_law_good", "_law_count", "_law_told", "_law_rule", "_law_idle", "_law_rows", "_law_done", "_law_row"] "law" (defScope st_law) f cdv A outer s H E).nox B (defBody st_law) (b_law a ns) :=
      (ds_cons (ds_law (i := 1) (l := 0) (n := 5) (bags_fn T) hr (by decide) hR hO hS hns (by decide) PassesOwn.never rfl sc_law.nd rfl (by first | exact Or.inl rfl | exact Or.inr rfl) rfl (ds_cons (ds_set (i := 2) sc_law.nd rfl (by first | exact Or.inl rfl | exact Or.inr rfl) (de_drw (i := 1) (fn_law_log T) hr (by decide) rfl (dea_cons (de_of dp_int) (dea_cons (de_tup (dea_cons (de_of dp_int) (dea_cons (de_op op_addA o_add (de_of dp_int) (de_drw (i := 1) (fn_law_take T) hr (by decide) rfl (dea_cons (de_of dp_int) dea_nil))) dea_nil))) dea_nil))))
      (ds_cons (ds_setP (i := 3) sc_law.nd rfl (by first | exact Or.inl rfl | exact Or.inr rfl) dp_none)
      (ds_one (ds_for PassesOwn.never rfl (die_seq (de_sset rfl T.z_sorted T.z_set (de_lst (dea_cons (de_of dp_int) (dea_cons (de_of dp_int) (dea_cons (de_drw (i := 1) (fn_law_take T) hr (by decide) rfl (dea_cons (de_of dp_int) dea_nil)) (dea_cons (de_drw (i := 1) (fn_law_take T) hr (by decide) rfl (dea_cons (de_of dp_int) dea_nil)) dea_nil))))))) (dg_name (i := 4) sc_law.nd rfl (by first | exact Or.inl rfl | exact Or.inr rfl) (by first | exact .inl rfl | exact .inr rfl)) (ds_cons (ds_own (i := 5) sc_law.nd rfl (by first | exact Or.inl rfl | exact Or.inr rfl) (df_lst dpa_nil))
      (ds_cons (ds_for PassesOwn.never rfl (die_of (di_rng2 T.z_range (dpa_cons dp_int (dpa_cons dp_int dpa_nil)))) (dg_name (i := 6) sc_law.nd rfl (by first | exact Or.inl rfl | exact Or.inr rfl) (by first | exact .inl rfl | exact .inr rfl)) (ds_one (ds_for PassesOwn.never rfl (die_of (di_seq (dp_call (fn_law_idles T) hr (by decide) (dpa_cons (dp_var 2) dpa_nil)))) (dg_name (i := 9) sc_law.nd rfl (by first | exact Or.inl rfl | exact Or.inr rfl) (by first | exact .inl rfl | exact .inr rfl)) (ds_cons (ds_asg (de_of (dp_call (fn_law_play T) hr (by decide) (dpa_cons (dp_tup (dpa_cons (dp_var 6) (dpa_cons (dp_var 9) dpa_nil))) (dpa_cons (dp_var 2) dpa_nil)))) (dg_tup rfl (dgs_cons (dg_name (i := 10) sc_law.nd rfl (by first | exact Or.inl rfl | exact Or.inr rfl) (by first | exact .inl rfl | exact .inr rfl)) (dgs_cons (dg_name (i := 11) sc_law.nd rfl (by first | exact Or.inl rfl | exact Or.inr rfl) (by first | exact .inl rfl | exact .inr rfl)) dgs_nil))))
      (ds_one (ds_if (det_of (dt_cmp (m := .bas) op_le o_cmp (dp_b (cr_max rfl) n_max T.z_max boot_max (dpa_cons (dp_op op_addA o_add (dp_lst (dpa_cons dp_int dpa_nil)) (dp_lc (own := [("_law_row", 12)]) rfl sc_law.nd (dic_of (di_seq (dp_var 10))) (blkOk_by (own := [("_law_row", 12)]) (N := ["_law_script", "_law_bag", "_law_log_here", "_law_before", "_law_most", "_law_good", "_law_count", "_law_told", "_law_rule", "_law_idle", "_law_rows", "_law_done", "_law_row"]) (sc := defScope st_law) (by decide +kernel)) (by decide) (fun _ _ _ _ _ => (dg_name (i := 12) sc_law.nd rfl (by first | exact Or.inl rfl | exact Or.inr rfl) (by first | exact .inl rfl | exact .inr rfl))) (fun _ _ _ _ _ => dts_nil) (fun _ _ _ _ _ => (dp_b call_len_seq n_len T.z_len PySem.boot_len (dpa_cons (dp_var 12) dpa_nil))))) dpa_nil)) (dp_var 4) (nomark _))) (ds_one (ds_app (i := 5) rfl (dp_b call_len_seq n_len T.z_len PySem.boot_len (dpa_cons (dp_var 11) dpa_nil)))) ds_nil))))))
      (ds_cons (ds_setP (i := 7) sc_law.nd rfl (by first | exact Or.inl rfl | exact Or.inr rfl) (dp_call (fn_fewest_saves T) hr (by decide) (dpa_cons (dp_var 2) (dpa_cons (dp_var 4) dpa_nil))))
      (ds_cons (ds_if (det_of (dt_not (dt_val (m := .bas) (dp_call (fn_law_same_r T 8) hr (by decide) (dpa_cons (dp_var 7) (dpa_cons (dp_b (cr_min rfl) n_min T.z_min boot_min (dpa_cons (dp_var 5) dpa_nil)) dpa_nil)))))) (ds_one (ds_ret dp_bool)) ds_nil)
      (ds_cons (ds_setP (i := 8) sc_law.nd rfl (by first | exact Or.inl rfl | exact Or.inr rfl) (dp_call (fn_best_rule T) hr (by decide) (dpa_cons (dp_var 2) (dpa_cons (dp_var 4) dpa_nil))))
      (ds_cons (ds_if (det_of (dt_w (dw_or (dt_not (dt_val (m := .bas) (dp_call (fn_is_rule T) hr (by decide) (dpa_cons (dp_var 8) dpa_nil)))) (dw_or (dt_cmp (m := .bas) op_gt o_cmp (dp_call (fn_most_unsaved T) hr (by decide) (dpa_cons (dp_var 8) (dpa_cons (dp_var 2) dpa_nil))) (dp_var 4) (nomark _)) (dw_or1 (dt_cmp (m := .bas) (op_neD hr.units) o_ne (dp_b call_len_seq n_len T.z_len PySem.boot_len (dpa_cons (dp_call (fn_saves T) hr (by decide) (dpa_cons (dp_var 8) (dpa_cons (dp_var 2) dpa_nil))) dpa_nil)) (dp_var 7) (nomark _))))))) (ds_one (ds_ret dp_bool)) ds_nil)
      (ds_cons (ds_if (det_of (dt_w (dw_and (dt_cmp (m := .bas) op_notN o_notN (dp_var 3) dp_none (nomark _)) (dw_and1 (dt_cmp (m := .bas) op_gt o_cmp (dp_var 7) (dp_var 3) (nomark _)))))) (ds_one (ds_ret dp_bool)) ds_nil)
      (ds_one (ds_setP (i := 3) sc_law.nd rfl (by first | exact Or.inl rfl | exact Or.inr rfl) (dp_var 7)))))))))))))))
      (ds_one (ds_ret (dp_and (dp_cmp (op_eqD hr.units) o_eq (dp_call (fn_fewest_saves T) hr (by decide) (dpa_cons (dp_tup (dpa_cons dp_int (dpa_cons dp_int (dpa_cons dp_int (dpa_cons dp_int (dpa_cons dp_int (dpa_cons dp_int dpa_nil))))))) (dpa_cons dp_int dpa_nil))) dp_int (nomark _)) (dp_one (dp_cmp (op_eqD hr.units) o_eq (dp_call (fn_fewest_saves T) hr (by decide) (dpa_cons (dp_tup dpa_nil) (dpa_cons dp_int dpa_nil))) dp_int (nomark _)))))))
    subst hB
    exact ⟨_, der.ps, fun _ => False, _, _, good_law H a 12, e, fun v σ' H' O' s3 g3 r3 => by rw [rep_bool.mp r3]; exact q H'⟩
end
theorem all_mk {l : PySem.W.OpenLaw} {w : World} {K : PySem.W.Frag} {h : Heap} {mg : Str → Option Value} {fa f0 f1 f2 f3 f4 f5 f6 f7 f8 f9 f10 f11 f12 f13 f14 f15 f16 f17 f18 f19 f20 : Addr} (X : K.In h) (G : h.Ns mainGlobals mg) (hfa : mg "law" = some (.ref fa))
    {od0 an0 od1 an1 od2 an2 od3 an3 od4 an4 od5 an5 od6 an6 od7 an7 od8 an8 od9 an9 od10 an10 od11 an11 od12 an12 od13 an13 od14 an14 od15 an15 od16 an16 od17 an17 od18 an18 od19 an19 od20 an20 : Option Addr} {sl0 sl1 sl2 sl3 sl4 sl5 sl6 sl7 sl8 sl9 sl10 sl11 sl12 sl13 sl14 sl15 sl16 sl17 sl18 sl19 sl20 : Array (Option Value)} {oc0 kV0 dc0 pm0 cd0 ct0 oc1 kV1 dc1 pm1 cd1 ct1 oc2 kV2 dc2 pm2 cd2 ct2 oc3 kV3 dc3 pm3 cd3 ct3 oc4 kV4 dc4 pm4 cd4 ct4 oc5 kV5 dc5 pm5 cd5 ct5 oc6 kV6 dc6 pm6 cd6 ct6 oc7 kV7 dc7 pm7 cd7 ct7 oc8 kV8 dc8 pm8 cd8 ct8 oc9 kV9 dc9 pm9 cd9 ct9 oc10 kV10 dc10 pm10 cd10 ct10 oc11 kV11 dc11 pm11 cd11 ct11 oc12 kV12 dc12 pm12 cd12 ct12 oc13 kV13 dc13 pm13 cd13 ct13 oc14 kV14 dc14 pm14 cd14 ct14 oc15 kV15 dc15 pm15 cd15 ct15 oc16 kV16 dc16 pm16 cd16 ct16 oc17 kV17 dc17 pm17 cd17 ct17 oc18 kV18 dc18 pm18 cd18 ct18 oc19 kV19 dc19 pm19 cd19 ct19 oc20 kV20 dc20 pm20 cd20 ct20 : Value} {t0 t1 t2 t3 : Tok}
    (a0 : PySem.W.nsIn K mainGlobals "in_range" = some (some (.ref f0))) (l0 : K.lookup f0 = some ⟨oc0, od0, .func (PySem.W.fnOf "in_range" "in_range" (defArgs st_in_range) (defBody st_in_range) (defScope st_in_range) .none kV0 dc0 pm0 an0 cd0 ct0), sl0⟩) (c0 : PySem.W.codeIn K cd0 "in_range" = true) (k0 : PySem.W.keepIn K (.ref f0) = true)
    (a1 : PySem.W.nsIn K mainGlobals "is_rule" = some (some (.ref f1))) (l1 : K.lookup f1 = some ⟨oc1, od1, .func (PySem.W.fnOf "is_rule" "is_rule" (defArgs st_is_rule) (defBody st_is_rule) (defScope st_is_rule) .none kV1 dc1 pm1 an1 cd1 ct1), sl1⟩) (c1 : PySem.W.codeIn K cd1 "is_rule" = true) (k1 : PySem.W.keepIn K (.ref f1) = true)
    (a2 : PySem.W.nsIn K mainGlobals "is_log" = some (some (.ref f2))) (l2 : K.lookup f2 = some ⟨oc2, od2, .func (PySem.W.fnOf "is_log" "is_log" (defArgs st_is_log) (defBody st_is_log) (defScope st_is_log) .none kV2 dc2 pm2 an2 cd2 ct2), sl2⟩) (c2 : PySem.W.codeIn K cd2 "is_log" = true) (k2 : PySem.W.keepIn K (.ref f2) = true)
    (a3 : PySem.W.nsIn K mainGlobals "check_rule" = some (some (.ref f3))) (l3 : K.lookup f3 = some ⟨oc3, od3, .func (PySem.W.fnOf "check_rule" "check_rule" (defArgs st_check_rule) (defBody st_check_rule) (defScope st_check_rule) .none kV3 dc3 pm3 an3 cd3 ct3), sl3⟩) (c3 : PySem.W.codeIn K cd3 "check_rule" = true) (k3 : PySem.W.keepIn K (.ref f3) = true)
    (a4 : PySem.W.nsIn K mainGlobals "check_log" = some (some (.ref f4))) (l4 : K.lookup f4 = some ⟨oc4, od4, .func (PySem.W.fnOf "check_log" "check_log" (defArgs st_check_log) (defBody st_check_log) (defScope st_check_log) .none kV4 dc4 pm4 an4 cd4 ct4), sl4⟩) (c4 : PySem.W.codeIn K cd4 "check_log" = true) (k4 : PySem.W.keepIn K (.ref f4) = true)
    (a5 : PySem.W.nsIn K mainGlobals "check_number" = some (some (.ref f5))) (l5 : K.lookup f5 = some ⟨oc5, od5, .func (PySem.W.fnOf "check_number" "check_number" (defArgs st_check_number) (defBody st_check_number) (defScope st_check_number) .none kV5 dc5 pm5 an5 cd5 ct5), sl5⟩) (c5 : PySem.W.codeIn K cd5 "check_number" = true) (k5 : PySem.W.keepIn K (.ref f5) = true)
    (a6 : PySem.W.nsIn K mainGlobals "played" = some (some (.ref f6))) (l6 : K.lookup f6 = some ⟨oc6, od6, .func (PySem.W.fnOf "played" "played" (defArgs st_played) (defBody st_played) (defScope st_played) .none kV6 dc6 pm6 an6 cd6 ct6), sl6⟩) (c6 : PySem.W.codeIn K cd6 "played" = true) (k6 : PySem.W.keepIn K (.ref f6) = true)
    (a7 : PySem.W.nsIn K mainGlobals "saves" = some (some (.ref f7))) (l7 : K.lookup f7 = some ⟨oc7, od7, .func (PySem.W.fnOf "saves" "saves" (defArgs st_saves) (defBody st_saves) (defScope st_saves) .none kV7 dc7 pm7 an7 cd7 ct7), sl7⟩) (c7 : PySem.W.codeIn K cd7 "saves" = true) (k7 : PySem.W.keepIn K (.ref f7) = true)
    (a8 : PySem.W.nsIn K mainGlobals "most_unsaved" = some (some (.ref f8))) (l8 : K.lookup f8 = some ⟨oc8, od8, .func (PySem.W.fnOf "most_unsaved" "most_unsaved" (defArgs st_most_unsaved) (defBody st_most_unsaved) (defScope st_most_unsaved) .none kV8 dc8 pm8 an8 cd8 ct8), sl8⟩) (c8 : PySem.W.codeIn K cd8 "most_unsaved" = true) (k8 : PySem.W.keepIn K (.ref f8) = true)
    (a9 : PySem.W.nsIn K mainGlobals "longest_run" = some (some (.ref f9))) (l9 : K.lookup f9 = some ⟨oc9, od9, .func (PySem.W.fnOf "longest_run" "longest_run" (defArgs st_longest_run) (defBody st_longest_run) (defScope st_longest_run) .none kV9 dc9 pm9 an9 cd9 ct9), sl9⟩) (c9 : PySem.W.codeIn K cd9 "longest_run" = true) (k9 : PySem.W.keepIn K (.ref f9) = true)
    (a10 : PySem.W.nsIn K mainGlobals "loosest" = some (some (.ref f10))) (l10 : K.lookup f10 = some ⟨oc10, od10, .func (PySem.W.fnOf "loosest" "loosest" (defArgs st_loosest) (defBody st_loosest) (defScope st_loosest) .none kV10 dc10 pm10 an10 cd10 ct10), sl10⟩) (c10 : PySem.W.codeIn K cd10 "loosest" = true) (k10 : PySem.W.keepIn K (.ref f10) = true)
    (a11 : PySem.W.nsIn K mainGlobals "fewest_saves" = some (some (.ref f11))) (l11 : K.lookup f11 = some ⟨oc11, od11, .func (PySem.W.fnOf "fewest_saves" "fewest_saves" (defArgs st_fewest_saves) (defBody st_fewest_saves) (defScope st_fewest_saves) .none kV11 dc11 pm11 an11 cd11 ct11), sl11⟩) (c11 : PySem.W.codeIn K cd11 "fewest_saves" = true) (k11 : PySem.W.keepIn K (.ref f11) = true)
    (a12 : PySem.W.nsIn K mainGlobals "best_rule" = some (some (.ref f12))) (l12 : K.lookup f12 = some ⟨oc12, od12, .func (PySem.W.fnOf "best_rule" "best_rule" (defArgs st_best_rule) (defBody st_best_rule) (defScope st_best_rule) .none kV12 dc12 pm12 an12 cd12 ct12), sl12⟩) (c12 : PySem.W.codeIn K cd12 "best_rule" = true) (k12 : PySem.W.keepIn K (.ref f12) = true)
    (a13 : PySem.W.nsIn K mainGlobals "_law_well" = some (some (.ref f13))) (l13 : K.lookup f13 = some ⟨oc13, od13, .func (PySem.W.fnOf "_law_well" "_law_well" (defArgs st_law_well) (defBody st_law_well) (defScope st_law_well) .none kV13 dc13 pm13 an13 cd13 ct13), sl13⟩) (c13 : PySem.W.codeIn K cd13 "_law_well" = true) (k13 : PySem.W.keepIn K (.ref f13) = true)
    (a14 : PySem.W.nsIn K mainGlobals "_law_take" = some (some (.ref f14))) (l14 : K.lookup f14 = some ⟨oc14, od14, .func (PySem.W.fnOf "_law_take" "_law_take" (defArgs st_law_take) (defBody st_law_take) (defScope st_law_take) .none kV14 dc14 pm14 an14 cd14 ct14), sl14⟩) (c14 : PySem.W.codeIn K cd14 "_law_take" = true) (k14 : PySem.W.keepIn K (.ref f14) = true)
    (a15 : PySem.W.nsIn K mainGlobals "_law_bags" = some (some (.ref f15))) (l15 : K.lookup f15 = some ⟨oc15, od15, .func (PySem.W.fnOf "_law_bags" "_law_bags" (defArgs st_law_bags) (defBody st_law_bags) (defScope st_law_bags) .none kV15 dc15 pm15 an15 cd15 ct15), sl15⟩) (c15 : PySem.W.codeIn K cd15 "_law_bags" = true) (k15 : PySem.W.keepIn K (.ref f15) = true)
    (a16 : PySem.W.nsIn K mainGlobals "_law_same" = some (some (.ref f16))) (l16 : K.lookup f16 = some ⟨oc16, od16, .func (PySem.W.fnOf "_law_same" "_law_same" (defArgs st_law_same) (defBody st_law_same) (defScope st_law_same) .none kV16 dc16 pm16 an16 cd16 ct16), sl16⟩) (c16 : PySem.W.codeIn K cd16 "_law_same" = true) (k16 : PySem.W.keepIn K (.ref f16) = true)
    (a17 : PySem.W.nsIn K mainGlobals "_law_log" = some (some (.ref f17))) (l17 : K.lookup f17 = some ⟨oc17, od17, .func (PySem.W.fnOf "_law_log" "_law_log" (defArgs st_law_log) (defBody st_law_log) (defScope st_law_log) .none kV17 dc17 pm17 an17 cd17 ct17), sl17⟩) (c17 : PySem.W.codeIn K cd17 "_law_log" = true) (k17 : PySem.W.keepIn K (.ref f17) = true)
    (a18 : PySem.W.nsIn K mainGlobals "_law_play" = some (some (.ref f18))) (l18 : K.lookup f18 = some ⟨oc18, od18, .func (PySem.W.fnOf "_law_play" "_law_play" (defArgs st_law_play) (defBody st_law_play) (defScope st_law_play) .none kV18 dc18 pm18 an18 cd18 ct18), sl18⟩) (c18 : PySem.W.codeIn K cd18 "_law_play" = true) (k18 : PySem.W.keepIn K (.ref f18) = true)
    (a19 : PySem.W.nsIn K mainGlobals "_law_idles" = some (some (.ref f19))) (l19 : K.lookup f19 = some ⟨oc19, od19, .func (PySem.W.fnOf "_law_idles" "_law_idles" (defArgs st_law_idles) (defBody st_law_idles) (defScope st_law_idles) .none kV19 dc19 pm19 an19 cd19 ct19), sl19⟩) (c19 : PySem.W.codeIn K cd19 "_law_idles" = true) (k19 : PySem.W.keepIn K (.ref f19) = true)
    (a20 : PySem.W.nsIn K mainGlobals "law" = some (some (.ref f20))) (l20 : K.lookup f20 = some ⟨oc20, od20, .func (PySem.W.fnOf "law" "law" (defArgs st_law) (defBody st_law) (defScope st_law) .none kV20 dc20 pm20 an20 cd20 ct20), sl20⟩) (c20 : PySem.W.codeIn K cd20 "law" = true) (k20 : PySem.W.keepIn K (.ref f20) = true)
    (z0 : PySem.W.nsIn K mainGlobals "all" = some none)
    (z1 : PySem.W.nsIn K mainGlobals "bool" = some none)
    (z2 : PySem.W.nsIn K mainGlobals "enumerate" = some none)
    (z3 : PySem.W.nsIn K mainGlobals "int" = some none)
    (z4 : PySem.W.nsIn K mainGlobals "isinstance" = some none)
    (z5 : PySem.W.nsIn K mainGlobals "len" = some none)
    (z6 : PySem.W.nsIn K mainGlobals "list" = some none)
    (z7 : PySem.W.nsIn K mainGlobals "max" = some none)
    (z8 : PySem.W.nsIn K mainGlobals "min" = some none)
    (z9 : PySem.W.nsIn K mainGlobals "range" = some none)
    (z10 : PySem.W.nsIn K mainGlobals "set" = some none)
    (z11 : PySem.W.nsIn K mainGlobals "sorted" = some none)
    (z12 : PySem.W.nsIn K mainGlobals "str" = some none)
    (z13 : PySem.W.nsIn K mainGlobals "tuple" = some none)
    (z14 : PySem.W.nsIn K mainGlobals "zip" = some none)
    (w0 : PySem.W.nsIn K mainGlobals "LAST" = some (some (.int 1000000 t0)))
    (w1 : PySem.W.nsIn K mainGlobals "MOST_COUNT" = some (some (.int 20 t1)))
    (w2 : PySem.W.nsIn K mainGlobals "MOST_EDITS" = some (some (.int 60 t2)))
    (w3 : PySem.W.nsIn K mainGlobals "MOST_IDLE" = some (some (.int 1000 t3)))
    (hw : ∀ (a : Addr) (ns : List Int), ns.length ≤ 63 → ∃ ρ', b_law a ns (.raw (.ref a) :: List.replicate 12 .nil) = some (.rt (.bool true) ρ')) :
    ∃ fd : FuncData, (∀ (s : Shared) (v : Value), BindsTo s fd ⟨[v], []⟩ [("_law_script", v)]) ∧ ∀ base : Heap, K.In base → base.Ns mainGlobals mg → FnOk l.prog w K mg base CX0 11 fa fd ["_law_script"] (spLaw K) := by
  have e := hfa.symm.trans (PySem.W.mg_of X G a20)
  cases e
  have F0 := fun_mk (st := st_in_range) l0 c0 k0
  have b0 := F0.binds (ps := ["value", "low", "high"]) fun _ _ _ _ _ _ us hl => match us, hl with | [_, _, _], _ => rfl
  have F1 := fun_mk (st := st_is_rule) l1 c1 k1
  have b1 := F1.binds (ps := ["value"]) fun _ _ _ _ _ _ us hl => match us, hl with | [_], _ => rfl
  have F2 := fun_mk (st := st_is_log) l2 c2 k2
  have b2 := F2.binds (ps := ["value"]) fun _ _ _ _ _ _ us hl => match us, hl with | [_], _ => rfl
  have F3 := fun_mk (st := st_check_rule) l3 c3 k3
  have b3 := F3.binds (ps := ["value"]) fun _ _ _ _ _ _ us hl => match us, hl with | [_], _ => rfl
  have F4 := fun_mk (st := st_check_log) l4 c4 k4
  have b4 := F4.binds (ps := ["value"]) fun _ _ _ _ _ _ us hl => match us, hl with | [_], _ => rfl
  have F5 := fun_mk (st := st_check_number) l5 c5 k5
  have b5 := F5.binds (ps := ["value", "low", "high"]) fun _ _ _ _ _ _ us hl => match us, hl with | [_, _, _], _ => rfl
  have F6 := fun_mk (st := st_played) l6 c6 k6
  have b6 := F6.binds (ps := ["rule", "log"]) fun _ _ _ _ _ _ us hl => match us, hl with | [_, _], _ => rfl
  have F7 := fun_mk (st := st_saves) l7 c7 k7
  have b7 := F7.binds (ps := ["rule", "log"]) fun _ _ _ _ _ _ us hl => match us, hl with | [_, _], _ => rfl
  have F8 := fun_mk (st := st_most_unsaved) l8 c8 k8
  have b8 := F8.binds (ps := ["rule", "log"]) fun _ _ _ _ _ _ us hl => match us, hl with | [_, _], _ => rfl
  have F9 := fun_mk (st := st_longest_run) l9 c9 k9
  have b9 := F9.binds (ps := ["log", "idle"]) fun _ _ _ _ _ _ us hl => match us, hl with | [_, _], _ => rfl
  have F10 := fun_mk (st := st_loosest) l10 c10 k10
  have b10 := F10.binds (ps := ["log", "count", "most"]) fun _ _ _ _ _ _ us hl => match us, hl with | [_, _, _], _ => rfl
  have F11 := fun_mk (st := st_fewest_saves) l11 c11 k11
  have b11 := F11.binds (ps := ["log", "most"]) fun _ _ _ _ _ _ us hl => match us, hl with | [_, _], _ => rfl
  have F12 := fun_mk (st := st_best_rule) l12 c12 k12
  have b12 := F12.binds (ps := ["log", "most"]) fun _ _ _ _ _ _ us hl => match us, hl with | [_, _], _ => rfl
  have F13 := fun_mk (st := st_law_well) l13 c13 k13
  have b13 := F13.binds (ps := ["_law_cell", "_law_turn"]) fun _ _ _ _ _ _ us hl => match us, hl with | [_, _], _ => rfl
  have F14 := fun_mk (st := st_law_take) l14 c14 k14
  have b14 := F14.binds (ps := ["_law_bag", "_law_many"]) fun _ _ _ _ _ _ us hl => match us, hl with | [_, _], _ => rfl
  have F15 := fun_mk (st := st_law_bags) l15 c15 k15
  have b15 := F15.binds (ps := ["_law_script", "_law_most"]) fun _ _ _ _ _ _ us hl => match us, hl with | [_, _], _ => rfl
  have F16 := fun_mk (st := st_law_same) l16 c16 k16
  have b16 := F16.binds (ps := ["_law_a", "_law_b"]) fun _ _ _ _ _ _ us hl => match us, hl with | [_, _], _ => rfl
  have F17 := fun_mk (st := st_law_log) l17 c17 k17
  have b17 := F17.binds (ps := ["_law_bag", "_law_most", "_law_rule"]) fun _ _ _ _ _ _ us hl => match us, hl with | [_, _, _], _ => rfl
  have F18 := fun_mk (st := st_law_play) l18 c18 k18
  have b18 := F18.binds (ps := ["_law_rule", "_law_log_here"]) fun _ _ _ _ _ _ us hl => match us, hl with | [_, _], _ => rfl
  have F19 := fun_mk (st := st_law_idles) l19 c19 k19
  have b19 := F19.binds (ps := ["_law_log_here"]) fun _ _ _ _ _ _ us hl => match us, hl with | [_], _ => rfl
  have F20 := fun_mk (st := st_law) l20 c20 k20
  have T : Txt K mg := ⟨⟨_, _, F0, b0, PySem.W.mg_of X G a0⟩, ⟨_, _, F1, b1, PySem.W.mg_of X G a1⟩, ⟨_, _, F2, b2, PySem.W.mg_of X G a2⟩, ⟨_, _, F3, b3, PySem.W.mg_of X G a3⟩, ⟨_, _, F4, b4, PySem.W.mg_of X G a4⟩, ⟨_, _, F5, b5, PySem.W.mg_of X G a5⟩, ⟨_, _, F6, b6, PySem.W.mg_of X G a6⟩, ⟨_, _, F7, b7, PySem.W.mg_of X G a7⟩, ⟨_, _, F8, b8, PySem.W.mg_of X G a8⟩, ⟨_, _, F9, b9, PySem.W.mg_of X G a9⟩, ⟨_, _, F10, b10, PySem.W.mg_of X G a10⟩, ⟨_, _, F11, b11, PySem.W.mg_of X G a11⟩, ⟨_, _, F12, b12, PySem.W.mg_of X G a12⟩, ⟨_, _, F13, b13, PySem.W.mg_of X G a13⟩, ⟨_, _, F14, b14, PySem.W.mg_of X G a14⟩, ⟨_, _, F15, b15, PySem.W.mg_of X G a15⟩, ⟨_, _, F16, b16, PySem.W.mg_of X G a16⟩, ⟨_, _, F17, b17, PySem.W.mg_of X G a17⟩, ⟨_, _, F18, b18, PySem.W.mg_of X G a18⟩, ⟨_, _, F19, b19, PySem.W.mg_of X G a19⟩, PySem.W.mg_none_of X G z0, PySem.W.mg_none_of X G z1, PySem.W.mg_none_of X G z2, PySem.W.mg_none_of X G z3, PySem.W.mg_none_of X G z4, PySem.W.mg_none_of X G z5, PySem.W.mg_none_of X G z6, PySem.W.mg_none_of X G z7, PySem.W.mg_none_of X G z8, PySem.W.mg_none_of X G z9, PySem.W.mg_none_of X G z10, PySem.W.mg_none_of X G z11, PySem.W.mg_none_of X G z12, PySem.W.mg_none_of X G z13, PySem.W.mg_none_of X G z14, ⟨_, PySem.W.mg_of X G w0⟩, ⟨_, PySem.W.mg_of X G w1⟩, ⟨_, PySem.W.mg_of X G w2⟩, ⟨_, PySem.W.mg_of X G w3⟩⟩
  exact ⟨PySem.W.fnOf "law" "law" (defArgs st_law) (defBody st_law) (defScope st_law) .none kV20 dc20 pm20 an20 cd20 ct20, fun s v => .of_eq rfl, fun base _ _ => ok_law F20 T hw⟩
end
end My

set_option autoImplicit false
namespace My
open PySem PySem.Spec
open PyProof.Rows hiding St
open L2 DL
theorem in_range_F (v lo hi : Int) : F_in_range [.int v, .int lo, .int hi] = some (.bool (decide (lo ≤ v ∧ v ≤ hi))) := by
  unfold F_in_range b_in_range
  by_cases h : lo ≤ v <;> simp [h]
abbrev ruleD (c s : Int) : D := .tuple [.int c, .int s]
theorem is_rule_F (c s : Int) (h : 1 ≤ c ∧ c ≤ 20 ∧ 1 ≤ s ∧ s ≤ 1000) : F_is_rule [ruleD c s] = some (.bool true) := by
  unfold F_is_rule b_is_rule ruleD
  simp [in_range_F, h.1, h.2.1, h.2.2.1, h.2.2.2]
theorem check_rule_F (c s : Int) (h : 1 ≤ c ∧ c ≤ 20 ∧ 1 ≤ s ∧ s ≤ 1000) : F_check_rule [ruleD c s] = some .none := by
  unfold F_check_rule b_check_rule
  simp [is_rule_F c s h]

theorem check_number_F (v lo hi : Int) (h : lo ≤ v ∧ v ≤ hi) : F_check_number [.int v, .int lo, .int hi] = some .none := by
  unfold F_check_number b_check_number
  simp [in_range_F, h.1, h.2]

theorem take_F (n m : Int) (bs : List D) (hb : Bag n bs) (hn : n ≤ 10 ^ 12) (h0 : 0 < m) (h1 : m < 2 ^ 62) : ∃ r bs', F_law_take bs [.int m] = some (.int r, bs') ∧ 0 ≤ r ∧ r < m ∧ Bag (n + 1) bs' := by
  obtain ⟨a, b, c, rfl, hb0, hb1, hc0, hc1⟩ := hb
  unfold F_law_take b_law_take
  by_cases ha : 0 < a
  · refine ⟨a % m, [.int (a / m), .int b, .int c], ?_, Int.emod_nonneg _ (by omega), Int.emod_lt_of_pos _ h0, a / m, b, c, rfl, hb0, hb1, hc0, by omega⟩
    simp [ha, h0, show m < 18446744073709551616 by omega]
  · have e1 : 0 ≤ (b + 1000003 * (c + 1)) % 2305843009213693951 := Int.emod_nonneg _ (by decide)
    have e2 : (b + 1000003 * (c + 1)) % 2305843009213693951 < 2305843009213693951 := Int.emod_lt_of_pos _ (by decide)
    generalize hx : (b + 1000003 * (c + 1)) % 2305843009213693951 = x at e1 e2
    have e3 : 0 ≤ (x * x + 7919 * (c + 1) ^ 2 + 5) % 2305843009213693951 := Int.emod_nonneg _ (by decide)
    have e4 : (x * x + 7919 * (c + 1) ^ 2 + 5) % 2305843009213693951 < 2305843009213693951 := Int.emod_lt_of_pos _ (by decide)
    generalize hy : (x * x + 7919 * (c + 1) ^ 2 + 5) % 2305843009213693951 = y at e3 e4
    refine ⟨y ^ 3 % 2305843009213693951 / 13 % m, [.int a, .int b, .int (c + 1)], ?_, Int.emod_nonneg _ (by omega), Int.emod_lt_of_pos _ h0, a, b, c + 1, rfl, hb0, hb1, by omega, by omega⟩
    have g1 : (c + 1).natAbs < 18446744073709551616 := by omega
    have g2 : y.natAbs < 18446744073709551616 := by omega
    have g3 : -18446744073709551616 < x ∧ x < 18446744073709551616 := by omega
    simp [ha, h0, hx, hy, g1, g2, g3]

theorem same_int (k : Nat) (i : Int) : F_law_same (k + 1) [.int i, .int i] = some (.bool true) := by
  unfold F_law_same b_law_same
  simp
theorem same_bool (k : Nat) (i : Bool) : F_law_same (k + 1) [.bool i, .bool i] = some (.bool true) := by
  unfold F_law_same b_law_same
  simp
theorem same_none (k : Nat) : F_law_same (k + 1) [.none, .none] = some (.bool true) := by
  unfold F_law_same b_law_same
  simp
theorem zip_self : ∀ ds : List D, zipL ds ds = ds.map fun d => .tuple [d, d]
  | [] => rfl
  | d :: ds => by simp [zipL, zip_self ds]
theorem bools_true : ∀ ds : List D, boolsOf (ds.map fun _ => .bool true) = some (ds.map fun _ => true)
  | [] => rfl
  | d :: ds => by simp [bools_true ds]
theorem all_true : ∀ ds : List D, (ds.map fun _ => true).all id = true
  | [] => rfl
  | d :: ds => by simp
theorem same_comp (k : Nat) (ds : List D) (x y s : Sl) (h : ∀ d ∈ ds, F_law_same k [d, d] = some (.bool true)) :
    compL (bTup 2 (bCons (bName 2) (bCons (bName 3) bNil))) yesT (nD (consA (varD .str 2) (consA (varD .str 3) nilA)) (F_law_same k)) [x, y, .nil, .nil] (zipL ds ds) = some (ds.map fun _ => .bool true) := by
  rw [zip_self, compL_map (fun _ => .bool true)]
  · rw [List.map_map]; rfl
  · intro d hd
    obtain ⟨e, he, rfl⟩ := List.mem_map.mp hd
    exact ⟨_, by simp; rfl, by simp [h e he]⟩
theorem same_list (k : Nat) (ds : List D) (hl : ds.length ≤ 100000) (h : ∀ d ∈ ds, F_law_same k [d, d] = some (.bool true)) : F_law_same (k + 1) [.list ds, .list ds] = some (.bool true) := by
  have e := same_comp k ds (.dat (.list ds)) (.dat (.list ds)) .nil h
  unfold F_law_same b_law_same
  simp [zipL_len, hl, wipeR] at e ⊢
  simp [e, bools_true]
theorem same_tup (k : Nat) (ds : List D) (hl : ds.length ≤ 100000) (h : ∀ d ∈ ds, F_law_same k [d, d] = some (.bool true)) : F_law_same (k + 1) [.tuple ds, .tuple ds] = some (.bool true) := by
  have e := same_comp k ds (.dat (.tuple ds)) (.dat (.tuple ds)) .nil h
  unfold F_law_same b_law_same
  simp [zipL_len, hl, wipeR] at e ⊢
  simp [e, bools_true]
theorem same_eq (k : Nat) (i j : Int) (h : i = j) : F_law_same (k + 1) [.int i, .int j] = some (.bool true) := by
  subst h
  exact same_int k i

/-! ## the machine -/
def stN (c s p : Int) (n : Nat) (t : Int) : Nat := if c ≤ ((if 0 < n ∧ p + s ≤ t then 0 else n : Nat) : Int) + 1 then 0 else (if 0 < n ∧ p + s ≤ t then 0 else n) + 1
def stD (c s p : Int) (n : Nat) (t : Int) : List (Int × Bool) := (if 0 < n ∧ p + s ≤ t then [(p + s, false)] else []) ++ (if c ≤ ((if 0 < n ∧ p + s ≤ t then 0 else n : Nat) : Int) + 1 then [(t, true)] else [])
def rowsM (c s : Int) : Int → Nat → List Int → List Nat
  | _, _, [] => []
  | p, n, t :: ts => stN c s p n t :: rowsM c s t (stN c s p n t) ts
def doneM (c s : Int) : Int → Nat → List Int → List (Int × Bool)
  | p, n, [] => if 0 < n then [(p + s, false)] else []
  | p, n, t :: ts => stD c s p n t ++ doneM c s t (stN c s p n t) ts
def doneL (c s : Int) : Int → Nat → List Int → List (Int × Bool)
  | _, _, [] => []
  | p, n, t :: ts => stD c s p n t ++ doneL c s t (stN c s p n t) ts
def endN (c s : Int) : Int → Nat → List Int → Nat
  | _, n, [] => n
  | p, n, t :: ts => endN c s t (stN c s p n t) ts
def endP : Int → List Int → Int
  | p, [] => p
  | _, t :: ts => endP t ts
theorem doneM_eq (c s : Int) : ∀ (ts : List Int) (p : Int) (n : Nat), doneM c s p n ts = doneL c s p n ts ++ (if 0 < endN c s p n ts then [(endP p ts + s, false)] else [])
  | [], p, n => rfl
  | t :: ts, p, n => by
    show stD c s p n t ++ doneM c s t (stN c s p n t) ts = (stD c s p n t ++ doneL c s t (stN c s p n t) ts) ++ _
    rw [doneM_eq c s ts, List.append_assoc]
    rfl
def dnD : Int × Bool → D
  | (t, b) => .tuple [.int t, .str (if b then "count" else "idle")]
def wl (i n : Nat) : List Int := (List.range n).map fun k => ((i - n + k : Nat) : Int)
def rowsD (i : Nat) : List Nat → List D
  | [] => []
  | n :: ns => .list (intsD (wl (i + 1) n)) :: rowsD (i + 1) ns
theorem stD_len (c s p : Int) (n : Nat) (t : Int) : (stD c s p n t).length ≤ 2 := by
  unfold stD
  rw [List.length_append]
  split <;> split <;> simp
theorem doneL_len (c s : Int) : ∀ (ts : List Int) (p : Int) (n : Nat), (doneL c s p n ts).length ≤ 2 * ts.length
  | [], p, n => by simp [doneL]
  | t :: ts, p, n => by
    have h1 := stD_len c s p n t
    have h2 := doneL_len c s ts t (stN c s p n t)
    simp only [doneL, List.length_append, List.length_cons]
    omega
theorem rowsM_len (c s : Int) : ∀ (ts : List Int) (p : Int) (n : Nat), (rowsM c s p n ts).length = ts.length
  | [], p, n => rfl
  | t :: ts, p, n => by simp [rowsM, rowsM_len c s ts]
theorem stN_le (c s p : Int) (n : Nat) (t : Int) : stN c s p n t ≤ n + 1 := by
  unfold stN
  split <;> split <;> omega
theorem wl_zero (i : Nat) : wl i 0 = [] := rfl
theorem wl_len (i n : Nat) : (wl i n).length = n := by simp [wl]
theorem wl_snoc (i n : Nat) (h : n ≤ i) : wl i n ++ [(i : Int)] = wl (i + 1) (n + 1) := by
  unfold wl
  rw [List.range_succ, List.map_append]
  congr 1
  · apply List.map_congr_left
    intro k _
    congr 2
    omega
  · simp only [List.map_cons, List.map_nil]
    congr 2
    omega
theorem wl_last (i n : Nat) (h : n ≤ i) (hn : 0 < n) : (intsD (wl i n)).getLast? = some (.int ((i - 1 : Nat) : Int)) := by
  obtain ⟨m, rfl⟩ : ∃ m, n = m + 1 := ⟨n - 1, by omega⟩
  obtain ⟨j, rfl⟩ : ∃ j, i = j + 1 := ⟨i - 1, by omega⟩
  rw [← wl_snoc j m (by omega), intsD_app]
  simp
theorem wl_nil (i n : Nat) : PyData.eqvAll (intsD (wl i n)) [] = decide (n = 0) := by
  rw [eqvAll_nil_iff]
  cases n with
  | zero => rfl
  | succ n =>
    have := wl_len i (n + 1)
    cases h : wl i (n + 1) with
    | nil => rw [h] at this; cases this
    | cons a b => simp
theorem log_prev (pre ts : List Int) (h : pre ≠ []) : (intsD (pre ++ ts))[pre.length - 1]? = some (.int (endP 0 pre)) := by
  have : ∀ (pre : List Int) (p : Int), pre ≠ [] → (pre ++ ts)[pre.length - 1]? = some (endP p pre) := by
    intro pre
    induction pre with
    | nil => intro p h; exact absurd rfl h
    | cons a pre ih =>
      intro p _
      cases pre with
      | nil => simp [endP]
      | cons b pre =>
        have := ih a (by simp)
        simpa [endP] using this
  rw [intsD_get, this pre 0 h]
  rfl
theorem endP_snoc (p t : Int) : ∀ pre : List Int, endP p (pre ++ [t]) = t
  | [] => rfl
  | a :: pre => by
    show endP a (pre ++ [t]) = t
    exact endP_snoc a t pre
theorem endN_le (c s : Int) : ∀ (ts : List Int) (p : Int) (n : Nat), endN c s p n ts ≤ n + ts.length
  | [], p, n => Nat.le_refl _
  | t :: ts, p, n => by
    have h1 := endN_le c s ts t (stN c s p n t)
    have h2 := stN_le c s p n t
    simp only [endN, List.length_cons]
    omega

theorem play_step (c s : Int) (log pre ts : List Int) (t : Int) (n : Nat) (rows done : List D) (hlog : log = pre ++ t :: ts) (hn : n ≤ pre.length) (hr : rows.length + 1 ≤ 100000) (hd : done.length + 2 ≤ 100000) (hq : pre.length + 1 ≤ 100000) :
    l_law_play_1 [.dat (ruleD c s), .dat (.tuple (intsD log)), .dat (.int c), .dat (.int s), .dat (.list (intsD (wl pre.length n))), .own rows, .own done, .dat (.int pre.length)] =
      some (.nx [.dat (ruleD c s), .dat (.tuple (intsD log)), .dat (.int c), .dat (.int s), .dat (.list (intsD (wl (pre.length + 1) (stN c s (endP 0 pre) n t)))), .own (rows ++ [.list (intsD (wl (pre.length + 1) (stN c s (endP 0 pre) n t)))]), .own (done ++ (stD c s (endP 0 pre) n t).map dnD), .dat (.int pre.length)]) := by
  have ht : (intsD log)[pre.length]? = some (.int t) := by
    rw [hlog, intsD_get]; simp
  unfold l_law_play_1
  have hsn := fun m (h : m ≤ pre.length) => wl_snoc pre.length m h
  have hs0 := hsn 0 (Nat.zero_le _)
  rw [wl_zero, List.nil_append] at hs0
  have hs1 := hsn n hn
  have e0 : [PyData.int (pre.length : Int)] = intsD (wl (pre.length + 1) 1) := by rw [← hs0]; rfl
  have e1 : intsD (wl pre.length n) ++ [PyData.int (pre.length : Int)] = intsD (wl (pre.length + 1) (n + 1)) := by rw [← hs1, intsD_app]; rfl
  have z0 : ∀ i, intsD (wl i 0) = [] := fun i => rfl
  have g1 : done.length < 100000 := by omega
  have g2 : rows.length < 100000 := by omega
  have g3 : done.length + 1 < 100000 := by omega
  have g4 : n + 1 ≤ 100000 := by omega
  by_cases h0 : 0 < n
  · have hp : pre ≠ [] := by intro z; rw [z] at hn; simp at hn; omega
    have hpre : (intsD log)[pre.length - 1]? = some (.int (endP 0 pre)) := by rw [hlog]; exact log_prev pre (t :: ts) hp
    have hl : (intsD (wl pre.length n)).getLast? = some (.int ((pre.length - 1 : Nat) : Int)) := wl_last _ _ hn h0
    by_cases h1 : endP 0 pre + s ≤ t
    · have h01 : 0 < n ∧ endP 0 pre + s ≤ t := ⟨h0, h1⟩
      by_cases h2 : c ≤ 1
      · simp [stN, stD, wl_nil, h0, Nat.ne_of_gt h0, hl, hpre, ht, h1, h2, dnD, e0, wl_len, z0, g1, g2, g3]
      · simp [stN, stD, wl_nil, h0, Nat.ne_of_gt h0, hl, hpre, ht, h1, h2, dnD, e0, wl_len, z0, g1, g2, g3]
    · by_cases h2 : c ≤ (n : Int) + 1
      · simp [stN, stD, wl_nil, h0, Nat.ne_of_gt h0, hl, hpre, ht, h1, h2, dnD, e1, wl_len, z0, g1, g2, g3, g4]
      · simp [stN, stD, wl_nil, h0, Nat.ne_of_gt h0, hl, hpre, ht, h1, h2, dnD, e1, wl_len, z0, g1, g2, g3, g4]
  · have h0' : n = 0 := by omega
    subst h0'
    by_cases h2 : c ≤ 1
    · simp [stN, stD, ht, h2, dnD, e0, wl_len, z0, g1, g2, g3]
    · simp [stN, stD, ht, h2, dnD, e0, wl_len, z0, g1, g2, g3]
theorem play_loop (c s : Int) (log : List Int) (hlog : log.length ≤ 40000) : ∀ (ts pre : List Int) (n : Nat) (rows done : List D) (x : Sl), log = pre ++ ts → n ≤ pre.length → rows.length + ts.length ≤ 100000 → done.length + 2 * ts.length ≤ 100000 →
    ∃ x', forL (bName 7) l_law_play_1 (rngL pre.length ts.length) [.dat (ruleD c s), .dat (.tuple (intsD log)), .dat (.int c), .dat (.int s), .dat (.list (intsD (wl pre.length n))), .own rows, .own done, x] =
      some (.nx [.dat (ruleD c s), .dat (.tuple (intsD log)), .dat (.int c), .dat (.int s), .dat (.list (intsD (wl log.length (endN c s (endP 0 pre) n ts)))), .own (rows ++ rowsD pre.length (rowsM c s (endP 0 pre) n ts)), .own (done ++ (doneL c s (endP 0 pre) n ts).map dnD), x'])
  | [], pre, n, rows, done, x, hl, hn, hr, hd => by
    rw [List.append_nil] at hl
    subst hl
    refine ⟨x, ?_⟩
    simp [rngL, rowsM, doneL, endN, rowsD]
  | t :: ts, pre, n, rows, done, x, hl, hn, hr, hd => by
    simp only [List.length_cons] at hr hd
    have hpl : pre.length + (ts.length + 1) = log.length := by rw [hl]; simp
    have st := play_step c s log pre ts t n rows done hl hn (by omega) (by omega) (by omega)
    have hsd := stD_len c s (endP 0 pre) n t
    have hsn := stN_le c s (endP 0 pre) n t
    obtain ⟨x', ih⟩ := play_loop c s log hlog ts (pre ++ [t]) (stN c s (endP 0 pre) n t) (rows ++ [.list (intsD (wl (pre.length + 1) (stN c s (endP 0 pre) n t)))]) (done ++ (stD c s (endP 0 pre) n t).map dnD) (.dat (.int pre.length))
      (by rw [hl]; simp) (by rw [List.length_append]; simp; omega) (by rw [List.length_append]; simp; omega) (by rw [List.length_append, List.length_map]; omega)
    rw [endP_snoc, List.length_append, List.length_singleton] at ih
    refine ⟨x', ?_⟩
    rw [List.length_cons, rngL_succ]
    refine (forL_cons (ρ1 := [.dat (ruleD c s), .dat (.tuple (intsD log)), .dat (.int c), .dat (.int s), .dat (.list (intsD (wl pre.length n))), .own rows, .own done, .dat (.int pre.length)]) rfl st).trans ?_
    refine ih.trans ?_
    simp [rowsM, doneL, endN, rowsD, List.append_assoc]
theorem play_F (c s : Int) (log : List Int) (hlog : log.length ≤ 40000) : F_law_play [ruleD c s, .tuple (intsD log)] = some (.tuple [.list (rowsD 0 (rowsM c s 0 0 log)), .list ((doneM c s 0 0 log).map dnD)]) := by
  obtain ⟨x', e⟩ := play_loop c s log hlog log [] 0 [] [] .nil rfl (Nat.zero_le _) (by simp; omega) (by simp; omega)
  simp only [List.length_nil, List.nil_append, endP] at e
  have hL := endN_le c s log 0 0
  have hd := doneL_len c s log 0 0
  have g1 : (doneL c s 0 0 log).length < 100000 := by omega
  unfold F_law_play b_law_play
  have hlen := rng1_nat log.length (by omega)
  have wz : intsD (wl 0 0) = [] := rfl
  have cz : ((0 : Nat) : Int) = 0 := rfl
  rw [wz, cz] at e
  simp [hlen, e, wl_nil, doneM_eq]
  by_cases h : 0 < endN c s 0 0 log
  · have hl : (intsD (wl log.length (endN c s 0 0 log))).getLast? = some (.int ((log.length - 1 : Nat) : Int)) := wl_last _ _ (by omega) h
    have hp : log ≠ [] := by intro z; subst z; simp [endN] at h
    have hpre : (intsD log)[log.length - 1]? = some (.int (endP 0 log)) := by
      have := log_prev log [] hp
      rwa [List.append_nil] at this
    simp [h, Nat.ne_of_gt h, hl, hpre, g1, dnD]
  · have h0 : endN c s 0 0 log = 0 := by omega
    simp [h0]

def Srt (ts : List Int) : Prop := ts.Pairwise (· ≤ ·)
def InR (ts : List Int) : Prop := ∀ t ∈ ts, 0 ≤ t ∧ t ≤ 1000000
theorem srt_tail {t : Int} {ts : List Int} (h : Srt (t :: ts)) : Srt ts := (List.pairwise_cons.mp h).2

theorem srt_pairs : ∀ {ts : List Int}, Srt ts → ∀ d ∈ zipL (intsD ts) (intsD ts.tail), ∃ x y : Int, d = .tuple [.int x, .int y] ∧ x ≤ y
  | [], _, d, hd => by simp [zipL] at hd
  | [t], _, d, hd => by simp [zipL] at hd
  | t :: u :: ts, h, d, hd => by
    have ht := List.pairwise_cons.mp h
    simp only [intsD_cons, List.tail_cons, zipL, List.mem_cons] at hd
    rcases hd with rfl | hd
    · exact ⟨t, u, rfl, ht.1 u (by simp)⟩
    · exact srt_pairs ht.2 d (by simpa using hd)
theorem map_true : ∀ {ds : List D}, ((ds.map fun _ => PyData.bool true).length = ds.length) ∧ boolsOf (ds.map fun _ => .bool true) = some (ds.map fun _ => true) ∧ (ds.map fun _ => true).all id = true
  | [] => ⟨rfl, rfl, rfl⟩
  | d :: ds => by
    obtain ⟨h1, h2, h3⟩ := map_true (ds := ds)
    exact ⟨by simp, by simp [h2], by simp⟩
theorem is_log_F (log : List Int) (hl : log.length ≤ 60) (hr : InR log) (hs : Srt log) : F_is_log [.tuple (intsD log)] = some (.bool true) := by
  have c1 : c_is_log_1 [.dat (.tuple (intsD log)), .nil, .nil] = some (.list ((intsD log).map fun _ => .bool true)) := by
    unfold c_is_log_1
    have := compL_map (b := bName 1) (g := nD (consA (varD .str 1) (consA (kD (.int 0)) (consA (kD (.int 1000000)) nilA))) F_in_range) (ρ := [.dat (.tuple (intsD log)), .nil, .nil]) (fun _ => .bool true) (ds := intsD log) fun d hd => by
      obtain ⟨t, ht, rfl⟩ := List.mem_map.mp hd
      obtain ⟨h1, h2⟩ := hr t ht
      exact ⟨[.dat (.tuple (intsD log)), .dat (.int t), .nil], rfl, by simp [in_range_F, h1, h2]⟩
    have hl2 : log.length ≤ 100000 := by omega
    simp only [lcD, itD, varD, List.getElem?_cons_zero, Option.bind, seqD, intsD_len, if_pos hl2, wipeR, List.set_cons_succ, List.set_cons_zero] at this ⊢
    rw [this]
  have c2 : c_is_log_2 [.dat (.tuple (intsD log)), .nil, .nil] = some (.list ((zipL (intsD log) (intsD log.tail)).map fun _ => .bool true)) := by
    unfold c_is_log_2
    have := compL_map (b := bTup 2 (bCons (bName 1) (bCons (bName 2) bNil))) (g := b2D (varD .str 1) (varD .str 2) leD) (ρ := [.dat (.tuple (intsD log)), .nil, .nil]) (fun _ => .bool true) (ds := zipL (intsD log) (intsD log.tail)) fun d hd => by
      obtain ⟨x, y, rfl, h⟩ := srt_pairs hs d hd
      exact ⟨[.dat (.tuple (intsD log)), .dat (.int x), .dat (.int y)], rfl, by simp [h]⟩
    have hl2 : (zipL (intsD log) (intsD log.tail)).length ≤ 100000 := by rw [zipL_len, intsD_len]; omega
    simp only [lcD, zipI, slD, noO, soO, kD, asInt, slcD, cutD_one, intsD_tail, zip2, varD, List.getElem?_cons_zero, Option.bind, if_pos hl2, wipeR, List.set_cons_succ, List.set_cons_zero] at this ⊢
    rw [this]
  obtain ⟨_, b1, a1⟩ := map_true (ds := intsD log)
  obtain ⟨_, b2, a2⟩ := map_true (ds := zipL (intsD log) (intsD log.tail))
  have hl3 : ¬ (60 : Int) < (log.length : Int) := by omega
  unfold F_is_log b_is_log
  simp [c1, c2, b1, b2, hl3]
theorem check_log_F (log : List Int) (hl : log.length ≤ 60) (hr : InR log) (hs : Srt log) : F_check_log [.tuple (intsD log)] = some .none := by
  unfold F_check_log b_check_log
  simp [is_log_F log hl hr hs]

def intsN (ns : List Nat) : List D := ns.map fun (n : Nat) => PyData.int (n : Int)
theorem stN_lt (c s p : Int) (n : Nat) (t : Int) (hc : 1 ≤ c) : (stN c s p n t : Int) < c := by
  unfold stN
  generalize (if 0 < n ∧ p + s ≤ t then 0 else n) = m
  split <;> omega

theorem played_step (c s : Int) (log pre ts : List Int) (t : Int) (n : Nat) (rows done : List D) (hlog : log = pre ++ t :: ts) (hn : n ≤ pre.length) (hc : (n : Int) < c) (hr : rows.length + 1 ≤ 100000) (hd : done.length + 2 ≤ 100000) :
    l_played_1 [.dat (ruleD c s), .dat (.tuple (intsD log)), .dat (.int c), .dat (.int s), .dat (.int n), .own rows, .own done, .dat (.int pre.length), .dat (.int t)] =
      some (.nx [.dat (ruleD c s), .dat (.tuple (intsD log)), .dat (.int c), .dat (.int s), .dat (.int (stN c s (endP 0 pre) n t)), .own (rows ++ [.int (stN c s (endP 0 pre) n t)]), .own (done ++ (stD c s (endP 0 pre) n t).map dnD), .dat (.int pre.length), .dat (.int t)]) := by
  unfold l_played_1
  have g1 : done.length < 100000 := by omega
  have g2 : rows.length < 100000 := by omega
  have g3 : done.length + 1 < 100000 := by omega
  by_cases h0 : 0 < n
  · have hp : pre ≠ [] := by intro z; rw [z] at hn; simp at hn; omega
    have hpl : 0 < pre.length := List.length_pos_iff.mpr hp
    have hpre : atI (intsD log) ((pre.length : Int) - 1) = some (.int (endP 0 pre)) := by
      rw [show (pre.length : Int) - 1 = ((pre.length - 1 : Nat) : Int) by omega, atI_natCast, hlog]
      exact log_prev pre (t :: ts) hp
    by_cases h1 : endP 0 pre + s ≤ t
    · have h1' : s ≤ t - endP 0 pre := by omega
      by_cases h2 : c = 1
      · subst h2; omega
      · have h2' : ¬ c ≤ 1 := by omega
        have h2'' : ¬ (1 : Int) = c := fun z => h2 z.symm
        simp [stN, stD, h0, hpre, h1, h1', h2', h2'', dnD, g1, g2, g3]
    · have h1' : ¬ s ≤ t - endP 0 pre := by omega
      by_cases h2 : (n : Int) + 1 = c
      · have h2' : c ≤ (n : Int) + 1 := by omega
        simp [stN, stD, h0, hpre, h1, h1', h2, h2', dnD, g1, g2, g3]
      · have h2' : ¬ c ≤ (n : Int) + 1 := by omega
        simp [stN, stD, h0, hpre, h1, h1', h2, h2', dnD, g1, g2, g3]
  · have h0' : n = 0 := by omega
    subst h0'
    by_cases h2 : c = 1
    · subst h2
      simp [stN, stD, dnD, g1, g2, g3]
    · have h2' : ¬ c ≤ 1 := by omega
      have h2'' : ¬ (1 : Int) = c := fun z => h2 z.symm
      simp [stN, stD, h2', h2'', dnD, g1, g2, g3]
theorem played_loop (c s : Int) (hc : 1 ≤ c) (log : List Int) : ∀ (ts pre : List Int) (n : Nat) (rows done : List D) (x y : Sl), log = pre ++ ts → n ≤ pre.length → (n : Int) < c → rows.length + ts.length ≤ 100000 → done.length + 2 * ts.length ≤ 100000 →
    ∃ x' y', forL (bTup 2 (bCons (bName 7) (bCons (bName 8) bNil))) l_played_1 (enumL pre.length (intsD ts)) [.dat (ruleD c s), .dat (.tuple (intsD log)), .dat (.int c), .dat (.int s), .dat (.int n), .own rows, .own done, x, y] =
      some (.nx [.dat (ruleD c s), .dat (.tuple (intsD log)), .dat (.int c), .dat (.int s), .dat (.int (endN c s (endP 0 pre) n ts)), .own (rows ++ intsN (rowsM c s (endP 0 pre) n ts)), .own (done ++ (doneL c s (endP 0 pre) n ts).map dnD), x', y'])
  | [], pre, n, rows, done, x, y, hl, hn, hnc, hr, hd => by
    refine ⟨x, y, ?_⟩
    simp [enumL, rowsM, doneL, endN, intsN]
  | t :: ts, pre, n, rows, done, x, y, hl, hn, hnc, hr, hd => by
    simp only [List.length_cons] at hr hd
    have st := played_step c s log pre ts t n rows done hl hn hnc (by omega) (by omega)
    have hsd := stD_len c s (endP 0 pre) n t
    have hsn := stN_le c s (endP 0 pre) n t
    obtain ⟨x', y', ih⟩ := played_loop c s hc log ts (pre ++ [t]) (stN c s (endP 0 pre) n t) (rows ++ [.int (stN c s (endP 0 pre) n t)]) (done ++ (stD c s (endP 0 pre) n t).map dnD) (.dat (.int pre.length)) (.dat (.int t))
      (by rw [hl]; simp) (by rw [List.length_append]; simp; omega) (stN_lt c s _ n t hc) (by rw [List.length_append]; simp; omega) (by rw [List.length_append, List.length_map]; omega)
    rw [endP_snoc, List.length_append, List.length_singleton] at ih
    refine ⟨x', y', ?_⟩
    rw [intsD_cons, enumL]
    refine (forL_cons (ρ1 := [.dat (ruleD c s), .dat (.tuple (intsD log)), .dat (.int c), .dat (.int s), .dat (.int n), .own rows, .own done, .dat (.int pre.length), .dat (.int t)]) rfl st).trans ?_
    refine ih.trans ?_
    simp [rowsM, doneL, endN, intsN, List.append_assoc]
theorem played_F (c s : Int) (hc : 1 ≤ c) (log : List Int) (hlog : log.length ≤ 40000) : F_played [ruleD c s, .tuple (intsD log)] = some (.tuple [.list (intsN (rowsM c s 0 0 log)), .list ((doneM c s 0 0 log).map dnD)]) := by
  obtain ⟨x', y', e⟩ := played_loop c s hc log log [] 0 [] [] .nil .nil rfl (Nat.zero_le _) (by simp; omega) (by simp; omega) (by simp; omega)
  simp only [List.length_nil, List.nil_append, endP] at e
  have hL := endN_le c s log 0 0
  have hd := doneL_len c s log 0 0
  have g1 : (doneL c s 0 0 log).length < 100000 := by omega
  unfold F_played b_played
  have cz : ((0 : Nat) : Int) = 0 := rfl
  rw [cz] at e
  simp [e, doneM_eq]
  by_cases h : 0 < endN c s 0 0 log
  · have hp : log ≠ [] := by intro z; subst z; simp [endN] at h
    have hpre : (intsD log).getLast? = some (.int (endP 0 log)) := by
      have := log_prev log [] hp
      rw [List.append_nil] at this
      rw [List.getLast?_eq_getElem?, intsD_len]
      exact this
    simp [h, hpre, g1, dnD]
  · simp [h]

theorem pick4d {w x y z r : Int} (h0 : 0 ≤ r) (h : r < 4) : ∃ m, atI [PyData.int w, .int x, .int y, .int z] r = some (.int m) ∧ (m = w ∨ m = x ∨ m = y ∨ m = z) := pick4 h0 h
theorem law_log_loop (c s : Int) (x1 : Sl) (hs : 1 ≤ s ∧ s ≤ 1000) : ∀ (k : Nat) (lo n : Int) (bs : List D) (found : List Int) (time : Int) (x5 x6 : Sl), Bag n bs → n + 4 * k ≤ 10 ^ 11 → found.length + k ≤ 1000 → 0 ≤ time → (∀ t ∈ found, 0 ≤ t ∧ t ≤ time) → Srt found →
    ∃ bs' found' time' x5' x6', forL (bName 5) l_law_log_1 (rngL lo k) [.bag bs, x1, .dat (ruleD c s), .dat (.tuple (intsD found)), .dat (.int time), x5, x6] = some (.nx [.bag bs', x1, .dat (ruleD c s), .dat (.tuple (intsD found')), .dat (.int time'), x5', x6']) ∧
      Bag (n + 4 * k) bs' ∧ found'.length = found.length + k ∧ (∀ t ∈ found', 0 ≤ t ∧ t ≤ time') ∧ Srt found' ∧ time' ≤ time + 1003 * k
  | 0, lo, n, bs, found, time, x5, x6, hb, hn, hf, ht, hm, hst => ⟨bs, found, time, x5, x6, rfl, by simpa using hb, rfl, hm, hst, by omega⟩
  | k + 1, lo, n, bs, found, time, x5, x6, hb, hn, hf, ht, hm, hst => by
    obtain ⟨r1, bs1, e1, a1, b1, hb1⟩ := take_F n 5 bs hb (by omega) (by decide) (by decide)
    obtain ⟨near, hnear⟩ : ∃ near, near = if s + r1 - 2 > 0 then s + r1 - 2 else 0 := ⟨_, rfl⟩
    obtain ⟨r2, bs2, e2, a2, b2, hb2⟩ := take_F _ 4 bs1 hb1 (by omega) (by decide) (by decide)
    obtain ⟨r3, bs3, e3, a3, b3, hb3⟩ := take_F _ (s + 2) bs2 hb2 (by omega) (by omega) (by omega)
    obtain ⟨r4, bs4, e4, a4, b4, hb4⟩ := take_F _ 4 bs3 hb3 (by omega) (by decide) (by decide)
    obtain ⟨m, p4, q4⟩ := pick4d (w := 0) (x := r2) (y := near) (z := r3) a4 b4
    have hnr : 0 ≤ near ∧ near ≤ 1002 := by rw [hnear]; split <;> omega
    have hm0 : 0 ≤ m ∧ m ≤ 1003 := by omega
    obtain ⟨bs', found', time', x5', x6', e, hb', hl', hm', hst', ht'⟩ := law_log_loop c s x1 hs k (lo + 1) (n + 4) bs4 (found ++ [time + m]) (time + m) (.dat (.int lo)) (.dat (.int near)) (hb4.mono (by omega)) (by omega) (by rw [List.length_append]; simp; omega) (by omega)
      (fun t h => by
        rcases List.mem_append.mp h with h | h
        · have := hm t h; omega
        · have : t = time + m := by simpa using h
          omega) (List.pairwise_append.mpr ⟨hst, by simp, fun a ha b hb => by
            have : b = time + m := by simpa using hb
            have := (hm a ha).2
            omega⟩)
    refine ⟨bs', found', time', x5', x6', ?_, hb'.mono (by omega), by rw [hl', List.length_append]; simp; omega, hm', hst', by omega⟩
    rw [rngL_succ]
    have g : found.length + 1 ≤ 100000 := by omega
    refine (forL_cons (ρ1 := [.bag bs, x1, .dat (ruleD c s), .dat (.tuple (intsD found)), .dat (.int time), .dat (.int lo), x6]) (ρ2 := [.bag bs4, x1, .dat (ruleD c s), .dat (.tuple (intsD (found ++ [time + m]))), .dat (.int (time + m)), .dat (.int lo), .dat (.int near)]) (by simp) ?_).trans e
    unfold l_law_log_1
    refine seq_eq (ρ1 := [.bag bs1, x1, .dat (ruleD c s), .dat (.tuple (intsD found)), .dat (.int time), .dat (.int lo), .dat (.int near)]) (by simp [e1]; rw [hnear]; simp) ?_
    refine seq_eq (ρ1 := [.bag bs4, x1, .dat (ruleD c s), .dat (.tuple (intsD found)), .dat (.int (time + m)), .dat (.int lo), .dat (.int near)]) (by simp [e2, e3, e4, p4]) ?_
    simp [g, intsD_app]
theorem law_log_F (n c s : Int) (most : Nat) (bs : List D) (hb : Bag n bs) (hn : n ≤ 10 ^ 10) (hs : 1 ≤ s ∧ s ≤ 1000) (hm : most ≤ 60) : ∃ log bs', F_law_log bs [.int most, ruleD c s] = some (.tuple (intsD log), bs') ∧ log.length ≤ most ∧ InR log ∧ Srt log ∧ (∀ t ∈ log, t ≤ 70000) ∧ Bag (n + 250) bs' := by
  obtain ⟨r1, bs1, e1, a1, b1, hb1⟩ := take_F n 9 bs hb (by omega) (by decide) (by decide)
  obtain ⟨r2, bs2, e2, a2, b2, hb2⟩ := take_F _ ((most : Int) + 1) bs1 hb1 (by omega) (by omega) (by omega)
  obtain ⟨k, rfl⟩ := Int.eq_ofNat_of_zero_le a2
  obtain ⟨bs', found', time', x5', x6', e, hb', hl', hm', hst', ht'⟩ := law_log_loop c s (.dat (.int most)) hs k 0 _ bs2 [] r1 .nil .nil hb2 (by omega) (by simp; omega) a1 (by simp) .nil
  refine ⟨found', bs', ?_, by rw [hl']; simp; omega, fun t h => by have := hm' t h; omega, hst', fun t h => by have := hm' t h; omega, hb'.mono (by omega)⟩
  have hr := rng1_nat k (by omega)
  unfold F_law_log b_law_log
  simp at e
  simp [e1, e2, hr, e]

theorem take_F2 (n m : Int) (bs : List D) (hb : Bag n bs) (hn : n ≤ 10 ^ 12) (h0 : 0 < m) (h1 : m ≤ 1000000000) : ∃ r bs', F_law_take bs [.int m] = some (.int r, bs') ∧ 0 ≤ r ∧ r < m ∧ Bag (n + 1) bs' := take_F n m bs hb hn h0 (by omega)
abbrev RuleOk (c s : Int) : Prop := 1 ≤ c ∧ c ≤ 20 ∧ 1 ≤ s ∧ s ≤ 1000

/-! ## runs of edits -/
def runM (s : Int) : Int → Nat → List Int → List Nat
  | _, _, [] => []
  | p, r, t :: ts => (if 0 < r ∧ t - p < s then r + 1 else 1) :: runM s t (if 0 < r ∧ t - p < s then r + 1 else 1) ts
def natsI (ns : List Nat) : List Int := ns.map fun (n : Nat) => (n : Int)
def LL (s : Int) (log : List Int) : Int := maxL 0 (natsI (runM s 0 0 log))
def RR (c s : Int) (log : List Int) : Int := maxL 0 (natsI (rowsM c s 0 0 log))
theorem intsN_eq (ns : List Nat) : intsN ns = intsD (natsI ns) := by simp [intsN, intsD, natsI]
theorem rows_runs (k : Nat) (hk : 1 ≤ k) (s : Int) : ∀ (ts : List Int) (p : Int) (r : Nat), rowsM (k : Int) s p (r % k) ts = (runM s p r ts).map (· % k)
  | [], p, r => rfl
  | t :: ts, p, r => by
    have st : stN (k : Int) s p (r % k) t = (if 0 < r ∧ t - p < s then r + 1 else 1) % k := by
      unfold stN
      have hm : r % k < k := Nat.mod_lt _ hk
      by_cases h0 : 0 < r
      · by_cases h1 : t - p < s
        · have h2 : ¬ (0 < r % k ∧ p + s ≤ t) := fun z => by omega
          rw [if_neg h2, if_pos (show 0 < r ∧ t - p < s from ⟨h0, h1⟩), Nat.add_mod]
          by_cases h3 : (k : Int) ≤ ((r % k : Nat) : Int) + 1
          · rw [if_pos h3]
            have h4 : r % k + 1 = k := by omega
            by_cases h5 : k = 1
            · subst h5; simp [Nat.mod_one]
            · rw [Nat.mod_eq_of_lt (show 1 < k by omega), h4, Nat.mod_self]
          · rw [if_neg h3]
            have h5 : 1 < k := by omega
            rw [Nat.mod_eq_of_lt h5, Nat.mod_eq_of_lt (show r % k + 1 < k by omega)]
        · rw [if_neg (show ¬ (0 < r ∧ t - p < s) from fun z => h1 z.2)]
          have h2 : (if 0 < r % k ∧ p + s ≤ t then 0 else r % k) = 0 := by
            by_cases h3 : 0 < r % k
            · rw [if_pos ⟨h3, by omega⟩]
            · rw [if_neg fun z => h3 z.1]; omega
          rw [h2]
          by_cases h5 : k = 1
          · subst h5; simp
          · rw [if_neg (by omega), Nat.mod_eq_of_lt (show 1 < k by omega)]
      · have hr : r = 0 := by omega
        subst hr
        rw [Nat.zero_mod]
        by_cases h5 : k = 1
        · subst h5; simp
        · simp [Nat.mod_eq_of_lt (show 1 < k by omega)]
          omega
    rw [rowsM, st, runM, List.map_cons, rows_runs k hk s ts]
theorem runs_below (s : Int) : ∀ (ts : List Int) (p : Int) (r v j : Nat), v ∈ runM s p r ts → 1 ≤ j → j ≤ v → j ≤ r ∨ j ∈ runM s p r ts
  | [], p, r, v, j, h, _, _ => by cases h
  | t :: ts, p, r, v, j, h, h1, h2 => by
    unfold runM at h ⊢
    generalize hr : (if 0 < r ∧ t - p < s then r + 1 else 1) = r' at h ⊢
    have hr' : ∀ i, 1 ≤ i → i ≤ r' → i ≤ r ∨ i = r' := fun i hi hi' => by
      rw [← hr] at hi' ⊢
      split at hi' <;> rename_i hc
      · rw [if_pos hc]; omega
      · rw [if_neg hc]; omega
    rcases List.mem_cons.mp h with rfl | h
    · rcases hr' j h1 h2 with z | rfl
      · exact .inl z
      · exact .inr (by simp)
    · rcases runs_below s ts t r' v j h h1 h2 with z | z
      · rcases hr' j h1 z with y | rfl
        · exact .inl y
        · exact .inr (by simp)
      · exact .inr (by simp [z])
theorem natsI_mem {ns : List Nat} {i : Int} (h : i ∈ natsI ns) : ∃ n ∈ ns, i = (n : Int) := by
  obtain ⟨n, h1, rfl⟩ := List.mem_map.mp h
  exact ⟨n, h1, rfl⟩
theorem mem_natsI {ns : List Nat} {n : Nat} (h : n ∈ ns) : (n : Int) ∈ natsI ns := List.mem_map.mpr ⟨n, h, rfl⟩
theorem LL_nonneg (s : Int) (log : List Int) : 0 ≤ LL s log := (maxL_ge _ _).1
theorem RR_eq (c s : Int) (hc : 1 ≤ c) (log : List Int) : RR c s log = if LL s log < c - 1 then LL s log else c - 1 := by
  obtain ⟨k, rfl⟩ := Int.eq_ofNat_of_zero_le (show 0 ≤ c by omega)
  have hk : 1 ≤ k := by omega
  have e := rows_runs k hk s log 0 0
  rw [Nat.zero_mod] at e
  have hL := maxL_ge (natsI (runM s 0 0 log)) 0
  have hL2 := maxL_mem (natsI (runM s 0 0 log)) 0
  have hR := maxL_ge (natsI (rowsM k s 0 0 log)) 0
  have hR2 := maxL_mem (natsI (rowsM k s 0 0 log)) 0
  have up : RR k s log ≤ LL s log ∧ RR k s log ≤ (k : Int) - 1 := by
    rcases hR2 with z | z
    · exact ⟨by unfold RR; rw [z]; exact hL.1, by unfold RR; rw [z]; omega⟩
    · obtain ⟨n, h1, h2⟩ := natsI_mem z
      rw [e] at h1
      obtain ⟨v, h3, h4⟩ := List.mem_map.mp h1
      have h5 := hL.2 _ (mem_natsI h3)
      have h6 : v % k ≤ v := Nat.mod_le _ _
      have h7 : v % k < k := Nat.mod_lt _ hk
      have h8 : RR k s log = ((v % k : Nat) : Int) := by unfold RR; rw [h2, ← h4]
      have h9 : (v : Int) ≤ LL s log := h5
      exact ⟨by omega, by omega⟩
  have dn : ∀ j : Nat, (j : Int) ≤ LL s log → (j : Int) ≤ (k : Int) - 1 → (j : Int) ≤ RR k s log := fun j h1 h2 => by
    by_cases hj : j = 0
    · subst hj; exact hR.1
    · rcases hL2 with z | z
      · have : LL s log = 0 := z
        omega
      · obtain ⟨v, h3, h4⟩ := natsI_mem z
        have h5 : LL s log = (v : Int) := h4
        rcases runs_below s log 0 0 v j h3 (by omega) (by omega) with y | y
        · omega
        · refine hR.2 _ (mem_natsI ?_)
          rw [e]
          exact List.mem_map.mpr ⟨j, y, Nat.mod_eq_of_lt (by omega)⟩
  have h0 := LL_nonneg s log
  by_cases h : LL s log < (k : Int) - 1
  · rw [if_pos h]
    obtain ⟨j, hj⟩ := Int.eq_ofNat_of_zero_le h0
    have := dn j (by omega) (by omega)
    omega
  · rw [if_neg h]
    obtain ⟨j, hj⟩ := Int.eq_ofNat_of_zero_le (show 0 ≤ (k : Int) - 1 by omega)
    have := dn j (by omega) (by omega)
    omega
theorem runs_mono {s u : Int} (h : s ≤ u) : ∀ (ts : List Int) (p m m' : Int) (r r' : Nat), m ≤ m' → r ≤ r' → maxL m (natsI (runM s p r ts)) ≤ maxL m' (natsI (runM u p r' ts))
  | [], p, m, m', r, r', hm, hr => hm
  | t :: ts, p, m, m', r, r', hm, hr => by
    unfold runM natsI maxL
    simp only [List.map_cons, maxL]
    have h1 : (if 0 < r ∧ t - p < s then r + 1 else 1) ≤ (if 0 < r' ∧ t - p < u then r' + 1 else 1) := by
      by_cases a : 0 < r ∧ t - p < s
      · rw [if_pos a, if_pos ⟨by omega, by omega⟩]; omega
      · rw [if_neg a]; split <;> omega
    generalize (if 0 < r ∧ t - p < s then r + 1 else 1) = q at h1
    generalize (if 0 < r' ∧ t - p < u then r' + 1 else 1) = q' at h1
    refine runs_mono h ts t _ _ q q' ?_ h1
    split <;> split <;> omega
theorem LL_mono {s u : Int} (h : s ≤ u) (log : List Int) : LL s log ≤ LL u log := runs_mono h log 0 0 0 0 0 (Int.le_refl _) (Nat.le_refl _)
def gapsM : Int → List Int → List Int
  | _, [] => []
  | p, t :: ts => (t - p) :: gapsM t ts
theorem runs_gap (s : Int) : ∀ (ts : List Int) (p : Int) (r : Nat), (∀ g ∈ gapsM p ts, g ≠ s) → runM s p r ts = runM (s + 1) p r ts
  | [], p, r, h => rfl
  | t :: ts, p, r, h => by
    have h0 : t - p ≠ s := h _ (by simp [gapsM])
    unfold runM
    have : (0 < r ∧ t - p < s) ↔ (0 < r ∧ t - p < s + 1) := ⟨fun z => ⟨z.1, by omega⟩, fun z => ⟨z.1, by omega⟩⟩
    simp only [this]
    rw [runs_gap s ts t _ fun g hg => h g (by simp [gapsM, hg])]
def gapsL : List Int → List Int
  | [] => []
  | t :: ts => gapsM t ts
theorem LL_gap (s : Int) (log : List Int) (h : ∀ g ∈ gapsL log, g ≠ s) : LL s log = LL (s + 1) log := by
  unfold LL
  cases log with
  | nil => rfl
  | cons t ts =>
    have := runs_gap s ts t 1 h
    unfold runM
    simp [this]

theorem saves_F (c s : Int) (hr : 1 ≤ c ∧ c ≤ 20 ∧ 1 ≤ s ∧ s ≤ 1000) (log : List Int) (hl : log.length ≤ 60) (h1 : InR log) (h2 : Srt log) : F_saves [ruleD c s, .tuple (intsD log)] = some (.list ((doneM c s 0 0 log).map dnD)) := by
  have e1 := check_rule_F c s hr
  have e2 := check_log_F log hl h1 h2
  have e3 := played_F c s hr.1 log (by omega)
  unfold F_saves b_saves
  simp only [ruleD] at e1 e3
  simp [e1, e2, e3]

theorem most_unsaved_F (c s : Int) (hr : 1 ≤ c ∧ c ≤ 20 ∧ 1 ≤ s ∧ s ≤ 1000) (log : List Int) (hl : log.length ≤ 60) (h1 : InR log) (h2 : Srt log) : F_most_unsaved [ruleD c s, .tuple (intsD log)] = some (.int (RR c s log)) := by
  have e1 := check_rule_F c s hr
  have e2 := check_log_F log hl h1 h2
  have e3 := played_F c s hr.1 log (by omega)
  have hlen : (natsI (rowsM c s 0 0 log)).length + 1 ≤ 100000 := by
    rw [natsI, List.length_map, rowsM_len]; omega
  rw [intsN_eq] at e3
  unfold F_most_unsaved b_most_unsaved RR
  simp [e1, e2, e3]
  generalize natsI (rowsM c s 0 0 log) = ns at hlen ⊢
  have : intsOf (PyData.int 0 :: intsD ns) = some (0 :: ns) := intsOf_intsD (0 :: ns)
  simp [hlen, Nat.add_comm 1]

theorem run_step (s : Int) (log pre ts : List Int) (t : Int) (r : Nat) (best : Int) (hlog : log = pre ++ t :: ts) (h0 : pre = [] → r = 0) (h1 : pre ≠ [] → 0 < r) :
    l_longest_run_1 [.dat (.tuple (intsD log)), .dat (.int s), .dat (.int best), .dat (.int r), .dat (.int pre.length), .dat (.int t)] =
      some (.nx [.dat (.tuple (intsD log)), .dat (.int s), .dat (.int (if best < ((if 0 < r ∧ t - endP 0 pre < s then r + 1 else 1 : Nat) : Int) then ((if 0 < r ∧ t - endP 0 pre < s then r + 1 else 1 : Nat) : Int) else best)), .dat (.int ((if 0 < r ∧ t - endP 0 pre < s then r + 1 else 1 : Nat) : Int)), .dat (.int pre.length), .dat (.int t)]) := by
  unfold l_longest_run_1
  by_cases hp : pre = []
  · have := h0 hp
    subst this hp
    simp
  · have hr := h1 hp
    have hpl : 0 < pre.length := List.length_pos_iff.mpr hp
    have hz : ¬ (pre.length : Int) = 0 := by omega
    have hpre : atI (intsD log) ((pre.length : Int) - 1) = some (.int (endP 0 pre)) := by
      rw [show (pre.length : Int) - 1 = ((pre.length - 1 : Nat) : Int) by omega, atI_natCast, hlog]
      exact log_prev pre (t :: ts) hp
    by_cases h : t - endP 0 pre < s
    · have h' : ¬ s ≤ t - endP 0 pre := by omega
      simp [hp, hz, hpre, h, h', hr]
    · have h' : s ≤ t - endP 0 pre := by omega
      simp [hp, hz, hpre, h, h', hr]
theorem run_loop (s : Int) (log : List Int) : ∀ (ts pre : List Int) (r : Nat) (best : Int) (x y : Sl), log = pre ++ ts → (pre = [] → r = 0) → (pre ≠ [] → 0 < r) →
    ∃ r' x' y', forL (bTup 2 (bCons (bName 4) (bCons (bName 5) bNil))) l_longest_run_1 (enumL pre.length (intsD ts)) [.dat (.tuple (intsD log)), .dat (.int s), .dat (.int best), .dat (.int (r : Int)), x, y] =
      some (.nx [.dat (.tuple (intsD log)), .dat (.int s), .dat (.int (maxL best (natsI (runM s (endP 0 pre) r ts)))), r', x', y'])
  | [], pre, r, best, x, y, _, _, _ => ⟨_, _, _, by simp [enumL, runM, natsI, maxL]; exact ⟨rfl, rfl, rfl⟩⟩
  | t :: ts, pre, r, best, x, y, hl, h0, h1 => by
    have st := run_step s log pre ts t r best hl h0 h1
    generalize hq : (if 0 < r ∧ t - endP 0 pre < s then r + 1 else 1) = q at st
    have hq0 : 0 < q := by rw [← hq]; split <;> omega
    obtain ⟨r', x', y', ih⟩ := run_loop s log ts (pre ++ [t]) q (if best < (q : Int) then (q : Int) else best) (.dat (.int pre.length)) (.dat (.int t)) (by rw [hl]; simp) (fun z => by simp at z) (fun _ => hq0)
    rw [endP_snoc, List.length_append, List.length_singleton] at ih
    refine ⟨r', x', y', ?_⟩
    rw [intsD_cons, enumL]
    refine (forL_cons (ρ1 := [.dat (.tuple (intsD log)), .dat (.int s), .dat (.int best), .dat (.int (r : Int)), .dat (.int pre.length), .dat (.int t)]) rfl st).trans ?_
    refine ih.trans ?_
    simp only [runM, hq, natsI, List.map_cons, maxL]
theorem longest_run_F (log : List Int) (s : Int) : F_longest_run [.tuple (intsD log), .int s] = some (.int (LL s log)) := by
  obtain ⟨r', x', y', e⟩ := run_loop s log log [] 0 0 .nil .nil rfl (fun _ => rfl) (fun h => absurd rfl h)
  have cz : ((0 : Nat) : Int) = 0 := rfl
  rw [cz] at e
  unfold F_longest_run b_longest_run
  simp only [List.length_nil] at e
  simp [e, LL, endP]
/-! ## the loosest idle time -/
def inG (g : Int) : Bool := decide (1 ≤ g ∧ g < 1000)
def candM (log : List Int) : List Int := 1000 :: (sortI ((gapsL log).filter inG)).reverse
def subP : D → D
  | .tuple [.int x, .int y] => .int (y - x)
  | _ => .none
def inGD : D → Bool
  | .int g => inG g
  | _ => false
theorem zip_gaps : ∀ log : List Int, (zipL (intsD log) (intsD log.tail)).map subP = intsD (gapsL log)
  | [] => rfl
  | [t] => rfl
  | t :: u :: ts => by
    have := zip_gaps (u :: ts)
    simp only [intsD_cons, List.tail_cons, zipL, List.map_cons, gapsL, gapsM, subP] at this ⊢
    rw [this]
theorem zip_mem : ∀ (xs ys : List Int), ∀ d ∈ zipL (intsD xs) (intsD ys), ∃ x y : Int, d = .tuple [.int x, .int y]
  | [], ys, d, hd => by cases ys <;> simp [zipL] at hd
  | x :: xs, [], d, hd => by simp [zipL] at hd
  | x :: xs, y :: ys, d, hd => by
    simp only [intsD_cons, zipL, List.mem_cons] at hd
    rcases hd with rfl | hd
    · exact ⟨x, y, rfl⟩
    · exact zip_mem xs ys d hd
theorem filter_gaps : ∀ gs : List Int, (intsD gs).filter inGD = intsD (gs.filter inG)
  | [] => rfl
  | g :: gs => by
    have := filter_gaps gs
    by_cases h : inG g = true
    · simp [inGD, h, this]
    · simp [inGD, h, this]
theorem gapsL_len (log : List Int) : (gapsL log).length ≤ log.length := by
  have : ∀ (ts : List Int) (p : Int), (gapsM p ts).length = ts.length := by
    intro ts
    induction ts with
    | nil => intro p; rfl
    | cons t ts ih => intro p; simp [gapsM, ih]
  cases log with
  | nil => exact Nat.le_refl _
  | cons t ts => simp [gapsL, this]
theorem loosest_loop (log : List Int) (c most : Int) (hc : 1 ≤ c) (x3 x4 x5 x7 : Sl) : ∀ (cs : List Int) (x6 : Sl), ∃ ρ', forL (bName 6) l_loosest_1 (intsD cs) [.dat (.tuple (intsD log)), .dat (.int c), .dat (.int most), x3, x4, x5, x6, x7] =
    some (match cs.find? (fun s => decide (RR c s log ≤ most)) with | some i => .rt (.int i) ρ' | none => .nx ρ')
  | [], x6 => ⟨_, rfl⟩
  | s :: cs, x6 => by
    have e := longest_run_F log s
    have hR := RR_eq c s hc log
    by_cases h : RR c s log ≤ most
    · refine ⟨[.dat (.tuple (intsD log)), .dat (.int c), .dat (.int most), x3, x4, x5, .dat (.int s), x7], ?_⟩
      rw [hR] at h
      rw [List.find?_cons_of_pos (by rw [hR]; exact decide_eq_true h)]
      simp [l_loosest_1, e, h]
    · obtain ⟨ρ', ih⟩ := loosest_loop log c most hc x3 x4 x5 x7 cs (.dat (.int s))
      refine ⟨ρ', ?_⟩
      rw [List.find?_cons_of_neg (by simpa using h), ← ih, intsD_cons]
      rw [hR] at h
      exact forL_cons (ρ1 := [.dat (.tuple (intsD log)), .dat (.int c), .dat (.int most), x3, x4, x5, .dat (.int s), x7]) rfl (by simp [l_loosest_1, e, h])
def fndD (o : Option Int) : D := match o with | some i => .int i | none => .none
theorem loosest_F (log : List Int) (c most : Int) (hc : 1 ≤ c) (hl : log.length ≤ 60) : F_loosest [.tuple (intsD log), .int c, .int most] = some (fndD ((candM log).find? (fun s => decide (RR c s log ≤ most)))) := by
  have c1 : c_loosest_1 [.dat (.tuple (intsD log)), .dat (.int c), .dat (.int most), .nil, .nil, .nil, .nil, .nil] = some (.list (intsD (gapsL log))) := by
    unfold c_loosest_1
    have := compL_map (b := bTup 2 (bCons (bName 4) (bCons (bName 5) bNil))) (g := b2D (varD .str 5) (varD .str 4) subD) (ρ := [.dat (.tuple (intsD log)), .dat (.int c), .dat (.int most), .nil, .nil, .nil, .nil, .nil]) subP (ds := zipL (intsD log) (intsD log.tail)) fun d hd => by
      obtain ⟨x, y, rfl⟩ := zip_mem _ _ d hd
      exact ⟨[.dat (.tuple (intsD log)), .dat (.int c), .dat (.int most), .nil, .dat (.int x), .dat (.int y), .nil, .nil], rfl, by simp [subP]⟩
    have hl2 : (zipL (intsD log) (intsD log.tail)).length ≤ 100000 := by rw [zipL_len, intsD_len]; omega
    simp only [lcD, zipI, slD, noO, soO, kD, asInt, slcD, cutD_one, intsD_tail, zip2, varD, List.getElem?_cons_zero, Option.bind, if_pos hl2, wipeR, List.set_cons_succ, List.set_cons_zero] at this ⊢
    rw [this, zip_gaps]
  have hgl := gapsL_len log
  have c2 : ∀ x3, x3 = Sl.dat (.list (intsD (gapsL log))) → c_loosest_2 [.dat (.tuple (intsD log)), .dat (.int c), .dat (.int most), x3, .nil, .nil, .nil, .nil] = some (.list (intsD ((gapsL log).filter inG))) := fun x3 hx => by
    subst hx
    unfold c_loosest_2
    have := compL_fm (b := bName 7) (t := tstD (chD leD ltD (kD (.int 1)) (varD .bas 7) (kD (.int 1000)))) (g := varD .str 7) (ρ := [.dat (.tuple (intsD log)), .dat (.int c), .dat (.int most), .dat (.list (intsD (gapsL log))), .nil, .nil, .nil, .nil]) inGD id (ds := intsD (gapsL log)) fun d hd => by
      obtain ⟨g, hg, rfl⟩ := List.mem_map.mp hd
      refine ⟨[.dat (.tuple (intsD log)), .dat (.int c), .dat (.int most), .dat (.list (intsD (gapsL log))), .nil, .nil, .nil, .dat (.int g)], rfl, ?_, fun _ => rfl⟩
      by_cases h : 1 ≤ g
      · simp [inGD, inG, h]
      · simp [inGD, inG, h]
    have hl2 : (gapsL log).length ≤ 100000 := by omega
    simp only [lcD, itD, varD, List.getElem?_cons_zero, List.getElem?_cons_succ, Option.bind, seqD, intsD_len, if_pos hl2, wipeR, List.set_cons_succ, List.set_cons_zero] at this ⊢
    rw [this, List.map_id, filter_gaps]
  have c2' := c2 _ rfl
  obtain ⟨ρ', e⟩ := loosest_loop log c most hc (.dat (.list (intsD (gapsL log)))) .nil .nil .nil (candM log) .nil
  have hfl : ((gapsL log).filter inG).length ≤ 60 := Nat.le_trans (List.length_filter_le _ _) (by omega)
  have hsl : (sortI ((gapsL log).filter inG)).length ≤ 60 := by rw [(sortI_perm _).length_eq]; exact hfl
  have hrev : (intsD (sortI ((gapsL log).filter inG))).reverse = intsD (sortI ((gapsL log).filter inG)).reverse := by simp [intsD]
  have hcand : intsD (candM log) = .int 1000 :: intsD (sortI ((gapsL log).filter inG)).reverse := rfl
  rw [hcand] at e
  have g : 1 + (sortI ((gapsL log).filter inG)).length ≤ 100000 := by omega
  unfold F_loosest b_loosest
  simp [-forL, c1, c2', hrev, g, e]
  cases (candM log).find? (fun s => decide (RR c s log ≤ most)) with
  | none => simp [fndD]
  | some i => simp [fndD]
theorem RR_mono (c : Int) (hc : 1 ≤ c) {s u : Int} (h : s ≤ u) (log : List Int) : RR c s log ≤ RR c u log := by
  rw [RR_eq c s hc, RR_eq c u hc]
  have := LL_mono h log
  split <;> split <;> omega
theorem cand_mem {log : List Int} {u : Int} (h : u ∈ candM log) : 1 ≤ u ∧ u ≤ 1000 := by
  unfold candM at h
  rcases List.mem_cons.mp h with rfl | h
  · decide
  · rw [List.mem_reverse, (sortI_perm _).mem_iff, List.mem_filter] at h
    have := of_decide_eq_true h.2
    omega
theorem cand_desc (log : List Int) : (candM log).Pairwise (fun a b => b ≤ a) := by
  unfold candM
  rw [List.pairwise_cons]
  refine ⟨fun a h => ?_, ?_⟩
  · have : a ∈ candM log := by unfold candM; simp [h]
    exact (cand_mem this).2
  · rw [List.pairwise_reverse]
    exact sortI_sorted _
theorem cand_lift (log : List Int) (c most : Int) (hc : 1 ≤ c) : ∀ (d : Nat) (s : Int), 1 ≤ s → s + d = 1000 → RR c s log ≤ most → ∃ u ∈ candM log, s ≤ u ∧ RR c u log ≤ most
  | 0, s, h1, h2, h => ⟨1000, by simp [candM], by omega, by rwa [show (1000 : Int) = s by omega]⟩
  | d + 1, s, h1, h2, h => by
    by_cases h3 : RR c (s + 1) log ≤ most
    · obtain ⟨u, e1, e2, e3⟩ := cand_lift log c most hc d (s + 1) (by omega) (by omega) h3
      exact ⟨u, e1, by omega, e3⟩
    · have : ∃ g ∈ gapsL log, g = s := by
        refine Classical.byContradiction fun z => ?_
        have e := LL_gap s log fun g hg hgs => z ⟨g, hg, hgs⟩
        rw [RR_eq c s hc, e, ← RR_eq c (s + 1) hc] at h
        exact h3 h
      obtain ⟨g, hg, rfl⟩ := this
      refine ⟨g, ?_, Int.le_refl _, h⟩
      unfold candM
      refine List.mem_cons_of_mem _ ?_
      rw [List.mem_reverse, (sortI_perm _).mem_iff, List.mem_filter]
      exact ⟨hg, decide_eq_true ⟨h1, by omega⟩⟩
theorem cand_none (log : List Int) (c most : Int) (hc : 1 ≤ c) (h : (candM log).find? (fun s => decide (RR c s log ≤ most)) = none) : most < RR c 1 log := by
  apply Int.lt_of_not_ge
  intro z
  obtain ⟨u, e1, e2, e3⟩ := cand_lift log c most hc 999 1 (by decide) (by decide) z
  have := List.find?_eq_none.mp h u e1
  simp at this
  omega
theorem cand_some (log : List Int) (c most i : Int) (hc : 1 ≤ c) (h : (candM log).find? (fun s => decide (RR c s log ≤ most)) = some i) : (1 ≤ i ∧ i ≤ 1000) ∧ (∀ s, s ≤ i → RR c s log ≤ most) ∧ ∀ s, i < s → s ≤ 1000 → most < RR c s log := by
  obtain ⟨h1, as, bs, h2, h3⟩ := List.find?_eq_some_iff_append.mp h
  have hi : i ∈ candM log := by rw [h2]; simp
  have hP : RR c i log ≤ most := of_decide_eq_true h1
  refine ⟨cand_mem hi, fun s hs => Int.le_trans (RR_mono c hc hs log) hP, fun s hs hs2 => ?_⟩
  apply Int.lt_of_not_ge
  intro z
  have hb := (cand_mem hi).1
  obtain ⟨d, hd⟩ := Int.eq_ofNat_of_zero_le (show 0 ≤ 1000 - s by omega)
  obtain ⟨u, e1, e2, e3⟩ := cand_lift log c most hc d s (by omega) (by omega) z
  have hdesc := cand_desc log
  rw [h2] at e1 hdesc
  rcases List.mem_append.mp e1 with e1 | e1
  · have := h3 u e1
    simp at this
    omega
  · rcases List.mem_cons.mp e1 with rfl | e1
    · omega
    · have := (List.pairwise_cons.mp (List.pairwise_append.mp hdesc).2.1).1 u e1
      omega

/-- the saves until a time -/
def cT (c s T p : Int) (n : Nat) (ts : List Int) : Nat := ((doneM c s p n ts).filter fun d => decide (d.1 ≤ T)).length
def leP (T : Int) : D → Bool
  | .tuple [.int t, _] => decide (t ≤ T)
  | _ => false
def fstP : D → D
  | .tuple [t, _] => t
  | _ => .none
theorem filt_dn (T : Int) : ∀ ds : List (Int × Bool), ((ds.map dnD).filter (leP T)) = (ds.filter fun d => decide (d.1 ≤ T)).map dnD
  | [] => rfl
  | (t, b) :: ds => by
    have := filt_dn T ds
    by_cases h : t ≤ T
    · simp [dnD, leP, h] at this ⊢
      exact this
    · simp [dnD, leP, h] at this ⊢
      exact this
theorem comp_until (T : Int) (ds : List (Int × Bool)) (x0 x1 : Sl) : compL (bTup 2 (bCons (bName 3) (bCons (bName 4) bNil))) (tstD (b2D (varD .bas 3) (varD .bas 2) leD)) (varD .str 3) [x0, x1, .dat (.int T), .nil, .nil] (ds.map dnD) = some (((ds.filter fun d => decide (d.1 ≤ T)).map dnD).map fstP) := by
  rw [← filt_dn]
  refine compL_fm (leP T) fstP fun d hd => ?_
  obtain ⟨⟨t, b⟩, _, rfl⟩ := List.mem_map.mp hd
  exact ⟨[x0, x1, .dat (.int T), .dat (.int t), .dat (.str (if b then "count" else "idle"))], rfl, by simp [leP, dnD], fun _ => rfl⟩

/-! ## fewer saves -/
theorem filt1 (b : Prop) [Decidable b] (x : Int) (y : Bool) (T : Int) : ((if b then [(x, y)] else []).filter fun d => decide (d.1 ≤ T)).length = if b ∧ x ≤ T then 1 else 0 := by
  by_cases h : b
  · by_cases h2 : x ≤ T
    · simp [h, h2]
    · simp [h, h2]
  · simp [h]
theorem cT_late (c s T : Int) (hs : 0 ≤ s) : ∀ (ts : List Int) (p : Int) (n : Nat), T < p → (∀ t ∈ ts, p ≤ t) → Srt ts → cT c s T p n ts = 0
  | [], p, n, hp, _, _ => by
    unfold cT doneM
    by_cases h : 0 < n
    · simp [h]; omega
    · simp [h]
  | t :: ts, p, n, hp, hts, hst => by
    have ht := hts t (by simp)
    have hst' := List.pairwise_cons.mp hst
    have ih := cT_late c s T hs ts t (stN c s p n t) (by omega) (fun u hu => hst'.1 u hu) hst'.2
    unfold cT at ih ⊢
    rw [doneM, List.filter_append, List.length_append, ih]
    unfold stD
    rw [List.filter_append, List.length_append]
    have a1 : ((if 0 < n ∧ p + s ≤ t then [(p + s, false)] else []).filter fun d => decide (d.1 ≤ T)).length = 0 := by
      split
      · rw [List.filter_cons_of_neg (by simp; omega)]; rfl
      · rfl
    have a2 : ∀ b : Bool, ((if b = true then [(t, true)] else []).filter fun d => decide (d.1 ≤ T)).length = 0 := fun b => by
      cases b with
      | true =>
        show ([(t, true)].filter fun d => decide (d.1 ≤ T)).length = 0
        rw [List.filter_cons_of_neg (by simp; omega)]; rfl
      | false => rfl
    have a3 := a2 (decide (c ≤ ((if 0 < n ∧ p + s ≤ t then 0 else n : Nat) : Int) + 1))
    simp only [decide_eq_true_eq] at a3
    rw [a1, a3]
/-- the saves at one edit -/
def stK (c s p : Int) (n : Nat) (t : Int) : Nat := (if 0 < n ∧ p + s ≤ t then 1 else 0) + (if c ≤ ((if 0 < n ∧ p + s ≤ t then 0 else n : Nat) : Int) + 1 then 1 else 0)
theorem cT_nil (c s T p : Int) (n : Nat) : cT c s T p n [] = if 0 < n ∧ p + s ≤ T then 1 else 0 := by
  unfold cT doneM
  by_cases h : 0 < n
  · by_cases h2 : p + s ≤ T <;> simp [h, h2]
  · simp [h]
theorem cT_in (c s T p : Int) (n : Nat) (t : Int) (ts : List Int) (h : t ≤ T) : cT c s T p n (t :: ts) = stK c s p n t + cT c s T t (stN c s p n t) ts := by
  unfold cT
  rw [doneM, List.filter_append, List.length_append]
  congr 1
  unfold stD stK
  rw [List.filter_append, List.length_append, filt1, filt1]
  congr 1
  · by_cases a : 0 < n ∧ p + s ≤ t
    · rw [if_pos a, if_pos ⟨a, by omega⟩]
    · rw [if_neg a, if_neg fun z => a z.1]
  · generalize (if 0 < n ∧ p + s ≤ t then 0 else n) = m
    by_cases a : c ≤ (m : Int) + 1
    · rw [if_pos a, if_pos ⟨a, h⟩]
    · rw [if_neg a, if_neg fun z => a z.1]
theorem cT_out (c s T p : Int) (n : Nat) (t : Int) (ts : List Int) (h : T < t) (hs : 0 ≤ s) (hst : Srt (t :: ts)) : cT c s T p n (t :: ts) = if 0 < n ∧ p + s ≤ T then 1 else 0 := by
  have hst' := List.pairwise_cons.mp hst
  have ih := cT_late c s T hs ts t (stN c s p n t) h (fun u hu => hst'.1 u hu) hst'.2
  unfold cT at ih ⊢
  rw [doneM, List.filter_append, List.length_append, ih, Nat.add_zero]
  unfold stD
  rw [List.filter_append, List.length_append, filt1, filt1]
  generalize (if 0 < n ∧ p + s ≤ t then 0 else n) = m
  rw [if_neg (fun z => by omega : ¬ (c ≤ (m : Int) + 1 ∧ t ≤ T)), Nat.add_zero]
  by_cases a : 0 < n ∧ p + s ≤ T
  · rw [if_pos a, if_pos ⟨⟨a.1, by omega⟩, a.2⟩]
  · rw [if_neg a, if_neg fun z => a ⟨z.1.1, z.2⟩]
theorem fewer_ge (c1 s1 c2 s2 T : Int) (hc : c2 ≤ c1) (hs : s2 ≤ s1) (h0 : 1 ≤ c2 ∧ 0 ≤ s2) : ∀ (ts : List Int) (p : Int) (n1 n2 k1 k2 : Nat), Srt ts → (n1 : Int) < c1 → (n2 : Int) < c2 → ((k1 = k2 ∧ n1 ≤ n2) ∨ k1 < k2) → k1 + cT c1 s1 T p n1 ts ≤ k2 + cT c2 s2 T p n2 ts
  | [], p, n1, n2, k1, k2, _, _, _, h => by
    rw [cT_nil, cT_nil]
    by_cases a : 0 < n1 ∧ p + s1 ≤ T
    · rw [if_pos a]
      rcases h with h | h
      · rw [if_pos ⟨by omega, by omega⟩]; omega
      · split <;> omega
    · rw [if_neg a]; split <;> omega
  | t :: ts, p, n1, n2, k1, k2, hst, hn1, hn2, h => by
    have hst' := List.pairwise_cons.mp hst
    by_cases ht : t ≤ T
    · rw [cT_in _ _ _ _ _ _ _ ht, cT_in _ _ _ _ _ _ _ ht, ← Nat.add_assoc, ← Nat.add_assoc]
      have q1 : (stN c1 s1 p n1 t : Int) < c1 := by
        unfold stN
        generalize (if 0 < n1 ∧ p + s1 ≤ t then 0 else n1) = m
        split <;> omega
      have q2 : (stN c2 s2 p n2 t : Int) < c2 := by
        unfold stN
        generalize (if 0 < n2 ∧ p + s2 ≤ t then 0 else n2) = m
        split <;> omega
      refine fewer_ge c1 s1 c2 s2 T hc hs h0 ts t _ _ _ _ hst'.2 q1 q2 ?_
      clear q1 q2
      unfold stN stK
      by_cases a1 : 0 < n1 ∧ p + s1 ≤ t <;> by_cases a2 : 0 < n2 ∧ p + s2 ≤ t
      · simp only [if_pos a1, if_pos a2]
        by_cases b1 : c1 ≤ ((0 : Nat) : Int) + 1
        · omega
        · by_cases b2 : c2 ≤ ((0 : Nat) : Int) + 1
          · simp only [if_neg b1, if_pos b2]; omega
          · simp only [if_neg b1, if_neg b2]; omega
      · simp only [if_pos a1, if_neg a2]
        by_cases b1 : c1 ≤ ((0 : Nat) : Int) + 1
        · omega
        · by_cases b2 : c2 ≤ (n2 : Int) + 1
          · simp only [if_neg b1, if_pos b2]; omega
          · simp only [if_neg b1, if_neg b2]; omega
      · simp only [if_neg a1, if_pos a2]
        by_cases b1 : c1 ≤ (n1 : Int) + 1
        · by_cases b2 : c2 ≤ ((0 : Nat) : Int) + 1
          · simp only [if_pos b1, if_pos b2]; omega
          · simp only [if_pos b1, if_neg b2]; omega
        · by_cases b2 : c2 ≤ ((0 : Nat) : Int) + 1
          · simp only [if_neg b1, if_pos b2]; omega
          · simp only [if_neg b1, if_neg b2]; omega
      · simp only [if_neg a1, if_neg a2]
        by_cases b1 : c1 ≤ (n1 : Int) + 1
        · by_cases b2 : c2 ≤ (n2 : Int) + 1
          · simp only [if_pos b1, if_pos b2]; omega
          · simp only [if_pos b1, if_neg b2]; omega
        · by_cases b2 : c2 ≤ (n2 : Int) + 1
          · simp only [if_neg b1, if_pos b2]; omega
          · simp only [if_neg b1, if_neg b2]; omega
    · rw [cT_out _ _ _ _ _ _ _ (by omega) (by omega) hst, cT_out _ _ _ _ _ _ _ (by omega) (by omega) hst]
      by_cases a : 0 < n1 ∧ p + s1 ≤ T
      · rw [if_pos a]
        rcases h with h | h
        · rw [if_pos ⟨by omega, by omega⟩]; omega
        · split <;> omega
      · rw [if_neg a]; split <;> omega
theorem fewer_one (c1 s1 s2 T : Int) (hc : 1 ≤ c1) (hs : 0 ≤ s1 ∧ 0 ≤ s2) : ∀ (ts : List Int) (p : Int) (n1 k1 k2 : Nat), Srt ts → (n1 : Int) < c1 → k1 + (if 0 < n1 then 1 else 0) ≤ k2 → k1 + cT c1 s1 T p n1 ts ≤ k2 + cT 1 s2 T p 0 ts
  | [], p, n1, k1, k2, _, _, h => by
    rw [cT_nil, cT_nil]
    by_cases a : 0 < n1
    · rw [if_pos a] at h
      split <;> split <;> omega
    · rw [if_neg a] at h
      rw [if_neg (fun z => a z.1)]
      split <;> omega
  | t :: ts, p, n1, k1, k2, hst, hn1, h => by
    have hst' := List.pairwise_cons.mp hst
    by_cases ht : t ≤ T
    · rw [cT_in _ _ _ _ _ _ _ ht, cT_in _ _ _ _ _ _ _ ht, ← Nat.add_assoc, ← Nat.add_assoc]
      have q1 : (stN c1 s1 p n1 t : Int) < c1 := by
        unfold stN
        generalize (if 0 < n1 ∧ p + s1 ≤ t then 0 else n1) = m
        split <;> omega
      have e2 : stN 1 s2 p 0 t = 0 := by simp [stN]
      have k2' : stK 1 s2 p 0 t = 1 := by simp [stK]
      rw [e2, k2']
      refine fewer_one c1 s1 s2 T hc hs ts t _ _ _ hst'.2 q1 ?_
      clear q1
      unfold stN stK
      by_cases a1 : 0 < n1 ∧ p + s1 ≤ t
      · rw [if_pos a1.1] at h
        simp only [if_pos a1]
        by_cases b1 : c1 ≤ ((0 : Nat) : Int) + 1
        · omega
        · simp only [if_neg b1]; simp; omega
      · simp only [if_neg a1]
        by_cases b1 : c1 ≤ (n1 : Int) + 1
        · simp only [if_pos b1]
          split at h <;> simp <;> omega
        · simp only [if_neg b1]
          split at h <;> simp <;> omega
    · rw [cT_out _ _ _ _ _ _ _ (by omega) (by omega) hst, cT_out _ _ _ _ _ _ _ (by omega) (by omega) hst]
      by_cases a : 0 < n1
      · rw [if_pos a] at h
        split <;> split <;> omega
      · rw [if_neg a] at h
        rw [if_neg (fun z => a z.1)]
        split <;> omega
theorem fewer (c1 s1 c2 s2 T : Int) (h1 : RuleOk c1 s1) (h2 : RuleOk c2 s2) (hf : c2 ≤ c1 ∧ (s2 ≤ s1 ∨ c2 = 1)) (log : List Int) (hl : Srt log) : cT c1 s1 T 0 0 log ≤ cT c2 s2 T 0 0 log := by
  rcases hf.2 with h | h
  · have := fewer_ge c1 s1 c2 s2 T hf.1 h ⟨h2.1, by omega⟩ log 0 0 0 0 0 hl (by omega) (by omega) (.inl ⟨rfl, Nat.le_refl _⟩)
    simpa using this
  · subst h
    have := fewer_one c1 s1 s2 T h1.1 ⟨by omega, by omega⟩ log 0 0 0 0 hl (by omega) (by simp)
    simpa using this

/-! ## from when on as many edits are unsaved -/
theorem done_time (c s : Int) : ∀ (ts : List Int) (p : Int) (n : Nat) (x : Int × Bool), x ∈ doneM c s p n ts → x.1 ∈ ts ∨ (∃ t ∈ ts, x.1 = t + s) ∨ (0 < n ∧ x.1 = p + s)
  | [], p, n, x, h => by
    unfold doneM at h
    split at h
    · next h0 =>
      have : x = (p + s, false) := by simpa using h
      subst this
      exact .inr (.inr ⟨h0, rfl⟩)
    · cases h
  | t :: ts, p, n, x, h => by
    unfold doneM at h
    rcases List.mem_append.mp h with h | h
    · unfold stD at h
      rcases List.mem_append.mp h with h | h
      · split at h
        · next h0 =>
          have : x = (p + s, false) := by simpa using h
          subst this
          exact .inr (.inr ⟨h0.1, rfl⟩)
        · cases h
      · generalize hq : (if 0 < n ∧ p + s ≤ t then 0 else n) = q at h
        split at h
        · have : x = (t, true) := by simpa using h
          subst this
          exact .inl (by simp)
        · cases h
    · rcases done_time c s ts t _ x h with h | ⟨u, hu, e⟩ | ⟨_, e⟩
      · exact .inl (by simp [h])
      · exact .inr (.inl ⟨u, by simp [hu], e⟩)
      · exact .inr (.inl ⟨t, by simp, e⟩)

def lenP : D → D
  | .list xs => .int xs.length
  | _ => .none
theorem rows_lens : ∀ (ns : List Nat) (i : Nat), (rowsD i ns).map lenP = intsN ns
  | [], i => rfl
  | n :: ns, i => by
    simp only [rowsD, List.map_cons, rows_lens ns, intsN, lenP, intsD_len, wl_len]
theorem rowsD_len : ∀ (ns : List Nat) (i : Nat), (rowsD i ns).length = ns.length
  | [], i => rfl
  | n :: ns, i => by simp [rowsD, rowsD_len ns]
theorem rowsD_mem : ∀ (ns : List Nat) (i : Nat), ∀ d ∈ rowsD i ns, ∃ xs, d = .list xs
  | [], i, d, h => by cases h
  | n :: ns, i, d, h => by
    rcases List.mem_cons.mp h with rfl | h
    · exact ⟨_, rfl⟩
    · exact rowsD_mem ns _ d h

end My

set_option autoImplicit false
namespace My
open PySem PySem.Spec
open PyProof.Rows hiding St
open L2 DL
def SV (c s : Int) (log : List Int) : Int := ((doneM c s 0 0 log).length : Nat)
theorem SV_mono (c s u : Int) (h1 : RuleOk c s) (h2 : RuleOk c u) (h : s ≤ u) (log : List Int) (hi : InR log) (hs : Srt log) : SV c u log ≤ SV c s log := by
  have all : ∀ s', RuleOk c s' → cT c s' 2000000 0 0 log = (doneM c s' 0 0 log).length := fun s' hr => by
    unfold cT
    rw [List.filter_eq_self.mpr]
    intro x hx
    refine decide_eq_true ?_
    rcases done_time c s' log 0 0 x hx with q | ⟨t, ht, e⟩ | ⟨q, _⟩
    · have := hi _ q; omega
    · have := hi t ht; rw [e]; omega
    · omega
  have f := fewer c u c s 2000000 h2 h1 ⟨Int.le_refl _, .inl h⟩ log hs
  rw [all u h2, all s h1] at f
  unfold SV
  omega
def Ok (c s most : Int) (log : List Int) : Prop := RuleOk c s ∧ RR c s log ≤ most
def Least (log : List Int) (most v : Int) : Prop := (∃ c s, Ok c s most log ∧ SV c s log = v) ∧ ∀ c s, Ok c s most log → v ≤ SV c s log
theorem least_uniq {log : List Int} {most v u : Int} (h : Least log most v) (h2 : Least log most u) : v = u := by
  obtain ⟨⟨c, s, o, e⟩, l⟩ := h
  obtain ⟨⟨c2, s2, o2, e2⟩, l2⟩ := h2
  have a := l c2 s2 o2
  have b := l2 c s o
  omega
theorem least_more {log : List Int} {most m2 v u : Int} (hm : most ≤ m2) (h : Least log most v) (h2 : Least log m2 u) : u ≤ v := by
  obtain ⟨⟨c, s, o, e⟩, _⟩ := h
  have := h2.2 c s ⟨o.1, Int.le_trans o.2 hm⟩
  omega
def LI (log : List Int) (most c : Int) : Option Int := (candM log).find? (fun s => decide (RR c s log ≤ most))
def cs20 : List Int := (List.range 20).map fun (i : Nat) => 1 + (i : Int)
theorem cs20_mem {c : Int} : c ∈ cs20 ↔ 1 ≤ c ∧ c ≤ 20 := by
  unfold cs20
  rw [List.mem_map]
  constructor
  · rintro ⟨i, hi, rfl⟩
    have := List.mem_range.mp hi
    omega
  · rintro ⟨h1, h2⟩
    exact ⟨(c - 1).toNat, List.mem_range.mpr (by omega), by omega⟩
def okL (log : List Int) (most : Int) (cs : List Int) : List (Int × Int) := cs.filterMap fun c => (LI log most c).map fun s => (c, s)
theorem okL_mem {log : List Int} {most : Int} {cs : List Int} {c s : Int} : (c, s) ∈ okL log most cs ↔ c ∈ cs ∧ LI log most c = some s := by
  unfold okL
  rw [List.mem_filterMap]
  constructor
  · rintro ⟨d, hd, e⟩
    cases h : LI log most d with
    | none => rw [h] at e; cases e
    | some t => rw [h] at e; cases e; exact ⟨hd, h⟩
  · rintro ⟨h1, h2⟩
    exact ⟨c, h1, by rw [h2]; rfl⟩
theorem LI_some {log : List Int} {most c s : Int} (hc : 1 ≤ c ∧ c ≤ 20) (h : LI log most c = some s) : Ok c s most log ∧ ∀ t, RuleOk c t → RR c t log ≤ most → t ≤ s := by
  obtain ⟨h1, h2, h3⟩ := cand_some log c most s hc.1 h
  refine ⟨⟨⟨hc.1, hc.2, h1.1, h1.2⟩, h2 s (Int.le_refl _)⟩, fun t ht hr => ?_⟩
  refine Classical.byContradiction fun z => ?_
  have := h3 t (by omega) ht.2.2.2
  omega
theorem LI_ex {log : List Int} {most c s : Int} (h : Ok c s most log) : ∃ t, LI log most c = some t ∧ s ≤ t := by
  cases e : LI log most c with
  | none =>
    have := cand_none log c most h.1.1 e
    have h2 := RR_mono c h.1.1 h.1.2.2.1 log
    have := h.2
    omega
  | some t => exact ⟨t, rfl, (LI_some ⟨h.1.1, h.1.2.1⟩ e).2 s h.1 h.2⟩
theorem okL_ne (log : List Int) (most : Int) (hm : 0 ≤ most) : okL log most cs20 ≠ [] := by
  have h : Ok 1 1 most log := ⟨by decide, by
    have := RR_eq 1 1 (by decide) log
    have h0 := LL_nonneg 1 log
    rw [this]
    split <;> omega⟩
  obtain ⟨t, e, _⟩ := LI_ex h
  intro z
  have := okL_mem.mpr ⟨cs20_mem.mpr ⟨by decide, by decide⟩, e⟩
  rw [z] at this
  cases this
def fewM (log : List Int) (most : Int) : Int := match (okL log most cs20).map fun p => SV p.1 p.2 log with
  | [] => 0
  | n :: ns => minL n ns
theorem few_least (log : List Int) (most : Int) (hm : 0 ≤ most) (hi : InR log) (hs : Srt log) : Least log most (fewM log most) := by
  unfold fewM
  have hne := okL_ne log most hm
  have mem : ∀ v ∈ (okL log most cs20).map (fun p => SV p.1 p.2 log), ∃ c s, Ok c s most log ∧ SV c s log = v := fun v hv => by
    obtain ⟨⟨c, s⟩, hp, rfl⟩ := List.mem_map.mp hv
    obtain ⟨h1, h2⟩ := okL_mem.mp hp
    exact ⟨c, s, (LI_some (cs20_mem.mp h1) h2).1, rfl⟩
  have low : ∀ c s, Ok c s most log → ∃ v ∈ (okL log most cs20).map (fun p => SV p.1 p.2 log), v ≤ SV c s log := fun c s h => by
    obtain ⟨t, e, le⟩ := LI_ex h
    have ht := (LI_some ⟨h.1.1, h.1.2.1⟩ e).1
    exact ⟨SV c t log, List.mem_map.mpr ⟨(c, t), okL_mem.mpr ⟨cs20_mem.mpr ⟨h.1.1, h.1.2.1⟩, e⟩, rfl⟩, SV_mono c s t h.1 ht.1 le log hi hs⟩
  cases hL : (okL log most cs20).map fun p => SV p.1 p.2 log with
  | nil => exact absurd (List.map_eq_nil_iff.mp hL) hne
  | cons n ns =>
    rw [hL] at mem low
    obtain ⟨h1, h2⟩ := minL_le ns n
    refine ⟨mem _ ?_, fun c s h => ?_⟩
    · rcases minL_mem ns n with q | q
      · show minL n ns ∈ n :: ns
        rw [q]; simp
      · exact List.mem_cons_of_mem _ q
    · obtain ⟨v, hv, le⟩ := low c s h
      rcases List.mem_cons.mp hv with rfl | hv
      · exact Int.le_trans h1 le
      · exact Int.le_trans (h2 v hv) le
/-! ## the program's rules -/
def ruleOf (log : List Int) (most c : Int) : D := .tuple [.int c, fndD (LI log most c)]
def okP : D → Bool
  | .tuple [_, .none] => false
  | _ => true
theorem ok_filter (log : List Int) (most : Int) (f : D → D) (g : Int × Int → D) (hg : ∀ c s, f (.tuple [.int c, .int s]) = g (c, s)) : ∀ cs : List Int, ((cs.map (ruleOf log most)).filter okP).map f = (okL log most cs).map g
  | [] => rfl
  | c :: cs => by
    have ih := ok_filter log most f g hg cs
    rw [List.map_cons]
    cases h : LI log most c with
    | none =>
      have e : okP (ruleOf log most c) = false := by unfold ruleOf; rw [h]; rfl
      rw [List.filter_cons_of_neg (by rw [e]; exact Bool.false_ne_true), ih]
      unfold okL
      rw [List.filterMap_cons, h]
      rfl
    | some s =>
      have er : ruleOf log most c = .tuple [.int c, .int s] := by unfold ruleOf; rw [h]; rfl
      rw [er, List.filter_cons_of_pos rfl, List.map_cons, ih, hg]
      unfold okL
      rw [List.filterMap_cons, h]
      rfl
theorem rng20 : rng2 [.int 1, .int 21] = some (intsD cs20) := by
  rw [rng2_ok 1 21 (by decide) (by decide) (by decide) (by decide)]
  rfl
theorem cs20_len : cs20.length = 20 := by decide
theorem r1_comp (log : List Int) (most : Int) (hl : log.length ≤ 60) (g : Rho → Option D) (hg : g = nD (consA (varD .str 3) (consA (nD (consA (varD .str 0) (consA (varD .str 3) (consA (varD .str 1) nilA))) F_loosest) nilA)) tupD) :
    compL (bName 3) yesT g [.dat (.tuple (intsD log)), .dat (.int most), .nil, .nil, .nil] (intsD cs20) = some (cs20.map (ruleOf log most)) := by
  subst hg
  have e : cs20.map (ruleOf log most) = (intsD cs20).map fun d => match d with | .int c => ruleOf log most c | _ => .none := by
    unfold intsD
    rw [List.map_map]
    rfl
  rw [e]
  refine compL_map _ fun d hd => ?_
  obtain ⟨c, hc, rfl⟩ := List.mem_map.mp hd
  have h := cs20_mem.mp hc
  have f := loosest_F log c most h.1 hl
  exact ⟨[.dat (.tuple (intsD log)), .dat (.int most), .nil, .dat (.int c), .nil], rfl, by simp [f, ruleOf, LI]⟩
theorem rule_mem {log : List Int} {most : Int} {d : D} (h : d ∈ cs20.map (ruleOf log most)) : ∃ c, (1 ≤ c ∧ c ≤ 20) ∧ ((d = .tuple [.int c, .none]) ∨ ∃ s, d = .tuple [.int c, .int s] ∧ LI log most c = some s) := by
  obtain ⟨c, hc, rfl⟩ := List.mem_map.mp h
  refine ⟨c, cs20_mem.mp hc, ?_⟩
  unfold ruleOf
  cases e : LI log most c with
  | none => exact .inl rfl
  | some s => exact .inr ⟨s, rfl, rfl⟩
theorem okL_len (log : List Int) (most : Int) : (okL log most cs20).length ≤ 20 := by
  have := List.length_filterMap_le (fun c => (LI log most c).map fun s => (c, s)) cs20
  rw [cs20_len] at this
  exact this
theorem few_F (log : List Int) (most : Int) (hl : log.length ≤ 60) (h1 : InR log) (h2 : Srt log) (hm : 0 ≤ most ∧ most ≤ 60) : F_fewest_saves [.tuple (intsD log), .int most] = some (.int (fewM log most)) := by
  have e1 := check_log_F log hl h1 h2
  have e2 := check_number_F most 0 60 hm
  have c1 : c_fewest_saves_1 [.dat (.tuple (intsD log)), .dat (.int most), .nil, .nil, .nil] = some (.list (cs20.map (ruleOf log most))) := by
    have := r1_comp log most hl _ rfl
    have hr := rng20
    unfold c_fewest_saves_1
    simp [hr, cs20_len, wipeR] at this ⊢
    rw [this]
    rfl
  have c2 : c_fewest_saves_2 [.dat (.tuple (intsD log)), .dat (.int most), .dat (.list (cs20.map (ruleOf log most))), .nil, .nil] = some (.list (intsD ((okL log most cs20).map fun p => SV p.1 p.2 log))) := by
    have key : compL (bName 4) (tstD (b2D (b2D (varD .bas 4) (kD (.int 1)) ixD) (kD .none) notND)) (nD (consA (b2D (nD (consA (varD .str 4) (consA (varD .str 0) nilA)) F_played) (kD (.int 1)) ixD) nilA) lenD) [.dat (.tuple (intsD log)), .dat (.int most), .dat (.list (cs20.map (ruleOf log most))), .nil, .nil] (cs20.map (ruleOf log most)) =
        some (((cs20.map (ruleOf log most)).filter okP).map fun d => match d with | .tuple [.int c, .int s] => .int (SV c s log) | _ => .none) := by
      refine compL_fm okP _ fun d hd => ?_
      obtain ⟨c, hc, q⟩ := rule_mem hd
      refine ⟨[.dat (.tuple (intsD log)), .dat (.int most), .dat (.list (cs20.map (ruleOf log most))), .nil, .dat d], rfl, ?_, fun ho => ?_⟩
      · rcases q with rfl | ⟨s, rfl, _⟩ <;> simp [okP]
      · rcases q with rfl | ⟨s, rfl, _⟩
        · simp [okP] at ho
        · have p := played_F c s hc.1 log (by omega)
          simp only [ruleD] at p
          simp [p, SV]
    have e3 := ok_filter log most (fun d => match d with | .tuple [.int c, .int s] => .int (SV c s log) | _ => .none) (fun p => .int (SV p.1 p.2 log)) (fun _ _ => rfl) cs20
    have e4 : (okL log most cs20).map (fun p => PyData.int (SV p.1 p.2 log)) = intsD ((okL log most cs20).map fun p => SV p.1 p.2 log) := by simp [intsD]
    rw [e3, e4] at key
    unfold c_fewest_saves_2
    simp [cs20_len, wipeR] at key ⊢
    rw [key]
    rfl
  have hne := okL_ne log most hm.1
  unfold F_fewest_saves b_fewest_saves fewM
  cases hL : (okL log most cs20).map fun p => SV p.1 p.2 log with
  | nil => exact absurd (List.map_eq_nil_iff.mp hL) hne
  | cons n ns =>
    rw [hL] at c2
    simp [e1, e2, c1, c2]
def bestD (log : List Int) (p : Int × Int) : D := .tuple [.int (SV p.1 p.2 log), ruleD p.1 p.2]
theorem depth_best (log : List Int) (ps : List (Int × Int)) : PyData.depthAll (ps.map (bestD log)) ≤ 60 := by
  have h := (shp_all (k := 2) (ds := ps.map (bestD log)) fun d hd => by
    obtain ⟨p, _, rfl⟩ := List.mem_map.mp hd
    refine shp_tup (k := 1) fun x hx => ?_
    rcases List.mem_cons.mp hx with rfl | hx
    · exact (shp_int _).mono (by decide)
    · have : x = ruleD p.1 p.2 := by simpa using hx
      subst this
      refine (shp_tup (k := 0) fun y hy => ?_)
      rcases List.mem_cons.mp hy with rfl | hy
      · exact shp_int _
      · have : y = .int p.2 := by simpa using hy
        subst this
        exact shp_int _).2
  omega
theorem alike_best (log : List Int) (ps : List (Int × Int)) : PySem.W.AlikeAll (ps.map (bestD log)) := by
  refine ⟨fun x hx y hy => ?_, fun x hx => ?_⟩
  · obtain ⟨p, _, rfl⟩ := List.mem_map.mp hx
    obtain ⟨q, _, rfl⟩ := List.mem_map.mp hy
    simp [bestD, PySem.W.alike, PySem.W.alikeAll]
  · obtain ⟨p, _, rfl⟩ := List.mem_map.mp hx
    simp [bestD]
theorem best_F (log : List Int) (most : Int) (hl : log.length ≤ 60) (h1 : InR log) (h2 : Srt log) (hm : 0 ≤ most ∧ most ≤ 60) : ∃ c s, F_best_rule [.tuple (intsD log), .int most] = some (ruleD c s) ∧ Ok c s most log ∧ SV c s log = fewM log most := by
  have e1 := check_log_F log hl h1 h2
  have e2 := check_number_F most 0 60 hm
  have c1 : c_best_rule_1 [.dat (.tuple (intsD log)), .dat (.int most), .nil, .nil, .nil] = some (.list (cs20.map (ruleOf log most))) := by
    have := r1_comp log most hl _ rfl
    have hr := rng20
    unfold c_best_rule_1
    simp [hr, cs20_len, wipeR] at this ⊢
    rw [this]
    rfl
  have c2 : c_best_rule_2 [.dat (.tuple (intsD log)), .dat (.int most), .dat (.list (cs20.map (ruleOf log most))), .nil, .nil] = some (.list ((okL log most cs20).map (bestD log))) := by
    have key : compL (bName 4) (tstD (b2D (b2D (varD .bas 4) (kD (.int 1)) ixD) (kD .none) notND)) (nD (consA (nD (consA (b2D (nD (consA (varD .str 4) (consA (varD .str 0) nilA)) F_played) (kD (.int 1)) ixD) nilA) lenD) (consA (varD .str 4) nilA)) tupD) [.dat (.tuple (intsD log)), .dat (.int most), .dat (.list (cs20.map (ruleOf log most))), .nil, .nil] (cs20.map (ruleOf log most)) =
        some (((cs20.map (ruleOf log most)).filter okP).map fun d => match d with | .tuple [.int c, .int s] => bestD log (c, s) | _ => .none) := by
      refine compL_fm okP _ fun d hd => ?_
      obtain ⟨c, hc, q⟩ := rule_mem hd
      refine ⟨[.dat (.tuple (intsD log)), .dat (.int most), .dat (.list (cs20.map (ruleOf log most))), .nil, .dat d], rfl, ?_, fun ho => ?_⟩
      · rcases q with rfl | ⟨s, rfl, _⟩ <;> simp [okP]
      · rcases q with rfl | ⟨s, rfl, _⟩
        · simp [okP] at ho
        · have p := played_F c s hc.1 log (by omega)
          simp only [ruleD] at p
          simp [p, SV, bestD]
    have e3 := ok_filter log most (fun d => match d with | .tuple [.int c, .int s] => bestD log (c, s) | _ => .none) (bestD log) (fun _ _ => rfl) cs20
    rw [e3] at key
    unfold c_best_rule_2
    simp [cs20_len, wipeR] at key ⊢
    rw [key]
    rfl
  have hne := okL_ne log most hm.1
  have hal := alike_best log (okL log most cs20)
  have hdp := depth_best log (okL log most cs20)
  have lst := few_least log most hm.1 h1 h2
  cases hL : okL log most cs20 with
  | nil => exact absurd hL hne
  | cons p ps =>
    rw [hL] at hal hdp c2
    rw [List.map_cons] at hal hdp c2
    have hrow : ∀ x ∈ ps.map (bestD log), isRow x := fun x hx => by
      obtain ⟨q, _, rfl⟩ := List.mem_map.mp hx
      exact ⟨_, _, rfl⟩
    obtain ⟨m1, m2⟩ := minD_first (ps.map (bestD log)) (bestD log p) ⟨_, _, rfl⟩ hrow
    have hm1 : PySem.W.minD (bestD log p) (ps.map (bestD log)) ∈ (okL log most cs20).map (bestD log) := by rw [hL, List.map_cons]; exact m1
    obtain ⟨⟨c, s⟩, hcs, hq⟩ := List.mem_map.mp hm1
    obtain ⟨hc, hli⟩ := okL_mem.mp hcs
    have hok := (LI_some (cs20_mem.mp hc) hli).1
    refine ⟨c, s, ?_, hok, ?_⟩
    · have hmt : minTD [.list (bestD log p :: ps.map (bestD log))] = some (bestD log (c, s)) := by
        unfold minTD
        dsimp only
        rw [if_pos ⟨hal, hdp⟩, ← hq]
      unfold F_best_rule b_best_rule
      simp [e1, e2, c1, c2, hmt]
      simp [bestD]
    · refine least_uniq ⟨⟨c, s, hok, rfl⟩, fun c2 s2 o2 => ?_⟩ lst
      obtain ⟨t, e, le⟩ := LI_ex o2
      have ht := (LI_some ⟨o2.1.1, o2.1.2.1⟩ e).1
      have hin : bestD log (c2, t) ∈ bestD log p :: ps.map (bestD log) := by
        have : bestD log (c2, t) ∈ (okL log most cs20).map (bestD log) := List.mem_map.mpr ⟨(c2, t), okL_mem.mpr ⟨cs20_mem.mpr ⟨o2.1.1, o2.1.2.1⟩, e⟩, rfl⟩
        rw [hL, List.map_cons] at this
        exact this
      have f := m2 _ hin
      rw [← hq] at f
      have mono := SV_mono c2 s2 t o2.1 ht.1 le log h1 h2
      have f' : SV c s log ≤ SV c2 t log := f
      omega

end My

set_option autoImplicit false
namespace My
open PySem PySem.Spec
open PyProof.Rows hiding St
open L2 DL
theorem sortU_len (ns : List Int) : (sortU ns).length ≤ ns.length := nodup_len ((sortU_lt ns).imp fun h => Int.ne_of_lt h) fun k hk => (sortU_mem k ns).mp hk
theorem sset_ints (ns : List Int) (h1 : ns.length ≤ 1000) (h2 : (sortU ns).length < 64) : ssetD [.list (intsD ns)] = some (.list (intsD (sortU ns))) := by simp [h1, h2]
def inG2 (g : Int) : Bool := decide (1 ≤ g ∧ g ≤ 1000)
def inG2D : D → Bool
  | .int g => inG2 g
  | _ => false
theorem filter_gaps2 : ∀ gs : List Int, (intsD gs).filter inG2D = intsD (gs.filter inG2)
  | [] => rfl
  | g :: gs => by
    have := filter_gaps2 gs
    by_cases h : inG2 g = true
    · simp [inG2D, h] at this ⊢
      exact this
    · simp [inG2D, h] at this ⊢
      exact this
def idL (log : List Int) : List Int := sortU (1 :: 1000 :: (gapsL log).filter inG2)
theorem idL_len (log : List Int) : (idL log).length ≤ log.length + 2 := by
  have h1 := sortU_len (1 :: 1000 :: (gapsL log).filter inG2)
  have h2 := List.length_filter_le inG2 (gapsL log)
  have h3 := gapsL_len log
  simp only [List.length_cons] at h1
  unfold idL
  omega
theorem idL_mem {log : List Int} {s : Int} (h : s ∈ idL log) : 1 ≤ s ∧ s ≤ 1000 := by
  have := (sortU_mem s _).mp h
  rcases List.mem_cons.mp this with rfl | this
  · decide
  · rcases List.mem_cons.mp this with rfl | this
    · decide
    · exact of_decide_eq_true (List.mem_filter.mp this).2
theorem cand_id {log : List Int} {s : Int} (h : s ∈ candM log) : s ∈ idL log := by
  refine (sortU_mem s _).mpr ?_
  unfold candM at h
  rcases List.mem_cons.mp h with rfl | h
  · simp
  · rw [List.mem_reverse, (sortI_perm _).mem_iff, List.mem_filter] at h
    have := of_decide_eq_true h.2
    refine List.mem_cons_of_mem _ (List.mem_cons_of_mem _ (List.mem_filter.mpr ⟨h.1, decide_eq_true ⟨this.1, by omega⟩⟩))
theorem idles_F (log : List Int) (hl : log.length ≤ 25) : F_law_idles [.tuple (intsD log)] = some (.list (intsD (idL log))) := by
  have hgl := gapsL_len log
  have c1 : c_law_idles_1 [.dat (.tuple (intsD log)), .nil, .nil, .nil, .nil] = some (.list (intsD (gapsL log))) := by
    unfold c_law_idles_1
    have := compL_map (b := bTup 2 (bCons (bName 2) (bCons (bName 3) bNil))) (g := b2D (varD .str 3) (varD .str 2) subD) (ρ := [.dat (.tuple (intsD log)), .nil, .nil, .nil, .nil]) subP (ds := zipL (intsD log) (intsD log.tail)) fun d hd => by
      obtain ⟨x, y, rfl⟩ := zip_mem _ _ d hd
      exact ⟨[.dat (.tuple (intsD log)), .nil, .dat (.int x), .dat (.int y), .nil], rfl, by simp [subP]⟩
    have hl2 : (zipL (intsD log) (intsD log.tail)).length ≤ 100000 := by rw [zipL_len, intsD_len]; omega
    simp only [lcD, zipI, slD, noO, soO, kD, asInt, slcD, cutD_one, intsD_tail, zip2, varD, List.getElem?_cons_zero, Option.bind, if_pos hl2, wipeR, List.set_cons_succ, List.set_cons_zero] at this ⊢
    rw [this, zip_gaps]
  have c2 : c_law_idles_2 [.dat (.tuple (intsD log)), .dat (.list (intsD (gapsL log))), .nil, .nil, .nil] = some (.list (intsD ((gapsL log).filter inG2))) := by
    unfold c_law_idles_2
    have := compL_fm (b := bName 4) (t := tstD (chD leD leD (kD (.int 1)) (varD .bas 4) (kD (.int 1000)))) (g := varD .str 4) (ρ := [.dat (.tuple (intsD log)), .dat (.list (intsD (gapsL log))), .nil, .nil, .nil]) inG2D id (ds := intsD (gapsL log)) fun d hd => by
      obtain ⟨g, hg, rfl⟩ := List.mem_map.mp hd
      refine ⟨[.dat (.tuple (intsD log)), .dat (.list (intsD (gapsL log))), .nil, .nil, .dat (.int g)], rfl, ?_, fun _ => rfl⟩
      by_cases h : 1 ≤ g
      · simp [inG2D, inG2, h]
      · simp [inG2D, inG2, h]
    have hl2 : (gapsL log).length ≤ 100000 := by omega
    simp only [lcD, itD, varD, List.getElem?_cons_zero, List.getElem?_cons_succ, Option.bind, seqD, intsD_len, if_pos hl2, wipeR, List.set_cons_succ, List.set_cons_zero] at this ⊢
    rw [this, List.map_id, filter_gaps2]
  have h2 := List.length_filter_le inG2 (gapsL log)
  have h3 := idL_len log
  have hid : idL log = sortU (1 :: 1000 :: (gapsL log).filter inG2) := rfl
  have g0 : 1 + 1 + ((gapsL log).filter inG2).length ≤ 100000 := by omega
  have g0' : ((gapsL log).filter inG2).length + 1 + 1 ≤ 100000 := by omega
  have g0'' : 2 + ((gapsL log).filter inG2).length ≤ 100000 := by omega
  have g1 : ((gapsL log).filter inG2).length + 1 + 1 ≤ 1000 := by omega
  have g2 : (sortU (1 :: 1000 :: (gapsL log).filter inG2)).length < 64 := by rw [← hid]; omega
  have es : ssetD [.list (.int 1 :: .int 1000 :: intsD ((gapsL log).filter inG2))] = some (.list (intsD (idL log))) := sset_ints (1 :: 1000 :: (gapsL log).filter inG2) (by simpa using g1) g2
  unfold F_law_idles b_law_idles
  simp [-ssetD, c1, c2, g0, g0', g0'', es]
def goodL (log : List Int) (most c : Int) (ts : List Int) : List Int := (ts.filter fun s => decide (RR c s log ≤ most)).map fun s => SV c s log
theorem c1_F (c s : Int) (log : List Int) (hl : log.length ≤ 60) (x0 x1 x2 x3 x4 x5 x6 x7 x8 x9 x11 x12 : Sl) : c_law_1 [x0, x1, x2, x3, x4, x5, x6, x7, x8, x9, .dat (.list (rowsD 0 (rowsM c s 0 0 log))), x11, x12] = some (.list (intsD (natsI (rowsM c s 0 0 log)))) := by
  have hlen : (rowsD 0 (rowsM c s 0 0 log)).length ≤ 60 := by rw [rowsD_len, rowsM_len]; exact hl
  unfold c_law_1
  have := compL_map (b := bName 12) (g := nD (consA (varD .str 12) nilA) lenD) (ρ := [x0, x1, x2, x3, x4, x5, x6, x7, x8, x9, .dat (.list (rowsD 0 (rowsM c s 0 0 log))), x11, .nil]) lenP (ds := rowsD 0 (rowsM c s 0 0 log)) fun d hd => by
    obtain ⟨xs, rfl⟩ := rowsD_mem _ _ d hd
    exact ⟨[x0, x1, x2, x3, x4, x5, x6, x7, x8, x9, .dat (.list (rowsD 0 (rowsM c s 0 0 log))), x11, .dat (.list xs)], rfl, by simp [lenP]⟩
  have hl2 : (rowsD 0 (rowsM c s 0 0 log)).length ≤ 100000 := by omega
  rw [rows_lens, intsN_eq] at this
  simp [hl2, wipeR]
  rw [this]
  rfl
theorem idle_loop (log : List Int) (hl : log.length ≤ 25) (most c : Int) (x0 x1 x3 x7 x8 x12 : Sl) : ∀ (ts found : List Int) (x9 x10 x11 : Sl), found.length + ts.length ≤ 10000 →
    ∃ y9 y10 y11, forL (bName 9) l_law_1 (intsD ts) [x0, x1, .dat (.tuple (intsD log)), x3, .dat (.int most), .own (intsD found), .dat (.int c), x7, x8, x9, x10, x11, x12] =
      some (.nx [x0, x1, .dat (.tuple (intsD log)), x3, .dat (.int most), .own (intsD (found ++ goodL log most c ts)), .dat (.int c), x7, x8, y9, y10, y11, x12])
  | [], found, x9, x10, x11, hf => ⟨x9, x10, x11, by simp [goodL]⟩
  | s :: ts, found, x9, x10, x11, hf => by
    simp only [List.length_cons] at hf
    have p := play_F c s log (by omega)
    have c1 := c1_F c s log (by omega) x0 x1 (.dat (.tuple (intsD log))) x3 (.dat (.int most)) (.own (intsD found)) (.dat (.int c)) x7 x8 (.dat (.int s)) (.dat (.list ((doneM c s 0 0 log).map dnD))) x12
    have hlen : (natsI (rowsM c s 0 0 log)).length ≤ 25 := by rw [natsI, List.length_map, rowsM_len]; exact hl
    have mx : maxD [.list (.int 0 :: intsD (natsI (rowsM c s 0 0 log)))] = some (.int (RR c s log)) := by
      have : intsOf (PyData.int 0 :: intsD (natsI (rowsM c s 0 0 log))) = some (0 :: natsI (rowsM c s 0 0 log)) := intsOf_intsD (0 :: natsI (rowsM c s 0 0 log))
      simp [this, RR]
    have g1 : (natsI (rowsM c s 0 0 log)).length + 1 ≤ 100000 := by omega
    have g2 : 1 + (natsI (rowsM c s 0 0 log)).length ≤ 100000 := by omega
    have g3 : found.length < 100000 := by omega
    simp only [ruleD] at p
    by_cases h : RR c s log ≤ most
    · obtain ⟨y9, y10, y11, e⟩ := idle_loop log hl most c x0 x1 x3 x7 x8 x12 ts (found ++ [SV c s log]) (.dat (.int s)) (.dat (.list (rowsD 0 (rowsM c s 0 0 log)))) (.dat (.list ((doneM c s 0 0 log).map dnD))) (by rw [List.length_append]; simp; omega)
      refine ⟨y9, y10, y11, ?_⟩
      have eg : goodL log most c (s :: ts) = SV c s log :: goodL log most c ts := by unfold goodL; rw [List.filter_cons_of_pos (by simpa using h)]; rfl
      rw [eg, intsD_cons]
      rw [List.append_assoc, List.singleton_append] at e
      refine (forL_cons (ρ1 := [x0, x1, .dat (.tuple (intsD log)), x3, .dat (.int most), .own (intsD found), .dat (.int c), x7, x8, .dat (.int s), x10, x11, x12]) rfl ?_).trans e
      unfold l_law_1
      refine (seq_eq (by simp [-forL, p]; rfl) ?_)
      generalize natsI (rowsM c s 0 0 log) = ns at c1 mx g1 g2
      simp [-maxD, c1, g1, g2, mx, h, g3, intsD_app, SV]
    · obtain ⟨y9, y10, y11, e⟩ := idle_loop log hl most c x0 x1 x3 x7 x8 x12 ts found (.dat (.int s)) (.dat (.list (rowsD 0 (rowsM c s 0 0 log)))) (.dat (.list ((doneM c s 0 0 log).map dnD))) (by omega)
      refine ⟨y9, y10, y11, ?_⟩
      have eg : goodL log most c (s :: ts) = goodL log most c ts := by unfold goodL; rw [List.filter_cons_of_neg (by simpa using h)]
      rw [eg, intsD_cons]
      refine (forL_cons (ρ1 := [x0, x1, .dat (.tuple (intsD log)), x3, .dat (.int most), .own (intsD found), .dat (.int c), x7, x8, .dat (.int s), x10, x11, x12]) rfl ?_).trans e
      unfold l_law_1
      refine (seq_eq (by simp [-forL, p]; rfl) ?_)
      generalize natsI (rowsM c s 0 0 log) = ns at c1 mx g1 g2
      simp [-maxD, c1, g1, g2, mx, h]
theorem count_loop (log : List Int) (hl : log.length ≤ 25) (most : Int) (x0 x1 x3 x7 x8 x12 : Sl) : ∀ (cs found : List Int) (x6 x9 x10 x11 : Sl), found.length + 30 * cs.length ≤ 9000 →
    ∃ y6 y9 y10 y11, forL (bName 6) l_law_2 (intsD cs) [x0, x1, .dat (.tuple (intsD log)), x3, .dat (.int most), .own (intsD found), x6, x7, x8, x9, x10, x11, x12] =
      some (.nx [x0, x1, .dat (.tuple (intsD log)), x3, .dat (.int most), .own (intsD (found ++ cs.flatMap fun c => goodL log most c (idL log))), y6, x7, x8, y9, y10, y11, x12])
  | [], found, x6, x9, x10, x11, hf => ⟨x6, x9, x10, x11, by simp⟩
  | c :: cs, found, x6, x9, x10, x11, hf => by
    simp only [List.length_cons] at hf
    have hi := idL_len log
    have hg : (goodL log most c (idL log)).length ≤ 27 := by
      unfold goodL
      rw [List.length_map]
      exact Nat.le_trans (List.length_filter_le _ _) (by omega)
    have f := idles_F log hl
    obtain ⟨z9, z10, z11, e1⟩ := idle_loop log hl most c x0 x1 x3 x7 x8 x12 (idL log) found x9 x10 x11 (by omega)
    obtain ⟨y6, y9, y10, y11, e2⟩ := count_loop log hl most x0 x1 x3 x7 x8 x12 cs (found ++ goodL log most c (idL log)) (.dat (.int c)) z9 z10 z11 (by rw [List.length_append]; omega)
    refine ⟨y6, y9, y10, y11, ?_⟩
    rw [intsD_cons, List.flatMap_cons, ← List.append_assoc]
    refine (forL_cons (ρ1 := [x0, x1, .dat (.tuple (intsD log)), x3, .dat (.int most), .own (intsD found), .dat (.int c), x7, x8, x9, x10, x11, x12]) rfl ?_).trans e2
    unfold l_law_2
    simp [-forL, f, e1]
def GG (log : List Int) (most : Int) : List Int := cs20.flatMap fun c => goodL log most c (idL log)
theorem GG_mem {log : List Int} {most v : Int} : v ∈ GG log most ↔ ∃ c s, (1 ≤ c ∧ c ≤ 20) ∧ s ∈ idL log ∧ RR c s log ≤ most ∧ SV c s log = v := by
  unfold GG goodL
  rw [List.mem_flatMap]
  constructor
  · rintro ⟨c, hc, h⟩
    obtain ⟨s, hs, e⟩ := List.mem_map.mp h
    obtain ⟨h1, h2⟩ := List.mem_filter.mp hs
    exact ⟨c, s, cs20_mem.mp hc, h1, of_decide_eq_true h2, e⟩
  · rintro ⟨c, s, hc, h1, h2, e⟩
    exact ⟨c, cs20_mem.mpr hc, List.mem_map.mpr ⟨s, List.mem_filter.mpr ⟨h1, decide_eq_true h2⟩, e⟩⟩
theorem GG_min (log : List Int) (most : Int) (hm : 0 ≤ most) (hi : InR log) (hs : Srt log) : minD [.list (intsD (GG log most))] = some (.int (fewM log most)) := by
  have lst := few_least log most hm hi hs
  have low : ∀ c s, Ok c s most log → ∃ v ∈ GG log most, v ≤ SV c s log := fun c s h => by
    obtain ⟨t, e, le⟩ := LI_ex h
    have ht := (LI_some ⟨h.1.1, h.1.2.1⟩ e).1
    have hc : t ∈ candM log := List.mem_of_find?_eq_some e
    exact ⟨SV c t log, GG_mem.mpr ⟨c, t, ⟨h.1.1, h.1.2.1⟩, cand_id hc, ht.2, rfl⟩, SV_mono c s t h.1 ht.1 le log hi hs⟩
  cases hG : GG log most with
  | nil =>
    obtain ⟨⟨c, s, o, _⟩, _⟩ := lst
    obtain ⟨v, hv, _⟩ := low c s o
    rw [hG] at hv
    cases hv
  | cons n ns =>
    have : minL n ns = fewM log most := by
      refine least_uniq ⟨?_, fun c s h => ?_⟩ lst
      · have hmem : minL n ns ∈ GG log most := by
          rw [hG]
          rcases minL_mem ns n with q | q
          · rw [q]; simp
          · exact List.mem_cons_of_mem _ q
        obtain ⟨c, s, hc, h1, h2, e⟩ := GG_mem.mp hmem
        have := idL_mem h1
        exact ⟨c, s, ⟨⟨hc.1, hc.2, this.1, this.2⟩, h2⟩, e⟩
      · obtain ⟨v, hv, le⟩ := low c s h
        rw [hG] at hv
        obtain ⟨l1, l2⟩ := minL_le ns n
        rcases List.mem_cons.mp hv with rfl | hv
        · exact Int.le_trans l1 le
        · exact Int.le_trans (l2 v hv) le
    simp [this]
theorem GG_len (log : List Int) (most : Int) (hl : log.length ≤ 25) : (GG log most).length ≤ 540 := by
  have hi := idL_len log
  have : ∀ cs : List Int, (cs.flatMap fun c => goodL log most c (idL log)).length ≤ 27 * cs.length := by
    intro cs
    induction cs with
    | nil => simp
    | cons c cs ih =>
      rw [List.flatMap_cons, List.length_append, List.length_cons]
      have hg : (goodL log most c (idL log)).length ≤ 27 := by
        unfold goodL
        rw [List.length_map]
        exact Nat.le_trans (List.length_filter_le _ _) (by omega)
      omega
  have := this cs20
  rw [cs20_len] at this
  exact this
theorem most_turn (log : List Int) (hl : log.length ≤ 25) (h1 : InR log) (h2 : Srt log) (m : Int) (hm : 0 ≤ m ∧ m ≤ 60) (b : D) (hb : b = .none ∨ ∃ v, b = .int v ∧ fewM log m ≤ v) (x0 x1 x5 x6 x7 x8 x9 x10 x11 x12 : Sl) :
    ∃ y5 y6 y7 y8 y9 y10 y11, l_law_3 [x0, x1, .dat (.tuple (intsD log)), .dat b, .dat (.int m), x5, x6, x7, x8, x9, x10, x11, x12] = some (.nx [x0, x1, .dat (.tuple (intsD log)), .dat (.int (fewM log m)), .dat (.int m), y5, y6, y7, y8, y9, y10, y11, x12]) := by
  obtain ⟨y6, y9, y10, y11, e1⟩ := count_loop log hl m x0 x1 (.dat b) x7 x8 x12 cs20 [] x6 x9 x10 x11 (by rw [cs20_len]; decide)
  rw [List.nil_append] at e1
  have f1 := few_F log m (by omega) h1 h2 hm
  have mg := GG_min log m hm.1 h1 h2
  have eG : (cs20.flatMap fun c => goodL log m c (idL log)) = GG log m := rfl
  rw [eG] at e1
  obtain ⟨c, s, f2, ok, esv⟩ := best_F log m (by omega) h1 h2 hm
  have f3 := is_rule_F c s ok.1
  have f4 := most_unsaved_F c s ok.1 log (by omega) h1 h2
  have f5 := saves_F c s ok.1 log (by omega) h1 h2
  have le : ¬ m < RR c s log := by have := ok.2; omega
  have hlen : (((doneM c s 0 0 log).length : Nat) : Int) = fewM log m := esv
  have sm := same_int 7 (fewM log m)
  have hr := rng20
  simp only [intsD_nil] at e1
  refine ⟨.own (intsD (GG log m)), y6, .dat (.int (fewM log m)), .dat (ruleD c s), y9, y10, y11, ?_⟩
  unfold l_law_3
  simp only [ruleD] at f2 f3 f4 f5
  generalize GG log m = gg at e1 mg
  generalize fewM log m = fm at *
  refine (seq_eq (by simp [-forL]; rfl) ?_)
  refine seq_eq (ρ1 := [x0, x1, .dat (.tuple (intsD log)), .dat b, .dat (.int m), .own (intsD gg), y6, x7, x8, y9, y10, y11, x12]) (by simp [-forL, hr, e1]) ?_
  refine (seq_eq (by simp [-forL, f1]; rfl) ?_)
  refine (seq_eq (by simp [-forL, -minD, mg, sm]; rfl) ?_)
  refine (seq_eq (by simp [-forL, f2]; rfl) ?_)
  refine (seq_eq (by simp [-forL, f3, f4, le, f5, hlen]; rfl) ?_)
  rcases hb with rfl | ⟨v, rfl, hv⟩
  · simp
  · have hv' : ¬ v < fm := by omega
    simp [hv']
def JL (a : Addr) (ρ : Rho) : Prop := ρ.length = 13 ∧ ρ[0]? = some (.raw (.ref a))
theorem law_body (a : Addr) (bs : List D) (ρ : Rho) (hb : Bag 100000 bs) (h : JL a ρ) : ∃ ρ', b_lawbody (ρ.set 1 (.own bs)) = some (.nx ρ') ∧ JL a ρ' := by
  obtain ⟨s0, s1, s2, s3, s4, s5, s6, s7, s8, s9, s10, s11, s12, rfl⟩ := ex13 h.1
  obtain rfl : s0 = .raw (.ref a) := by simpa using h.2
  unfold b_lawbody
  simp only [List.set_cons_succ, List.set_cons_zero]
  obtain ⟨r0, bs0, e0, p0, q0, hb0⟩ := take_F2 _ 12 bs hb (by decide) (by decide) (by decide)
  obtain ⟨log, bs1, e1, l1, i1, o1, m1, hb1⟩ := law_log_F _ 1 (1 + r0) 25 bs0 hb0 (by decide) (by omega) (by decide)
  have e1' : F_law_log bs0 [.int 25, .tuple [.int 1, .int (1 + r0)]] = some (.tuple (intsD log), bs1) := e1
  refine seq_ex _ (by simp [-forL, e0, e1']; rfl) ?_
  refine seq_ex _ (by simp [-forL]; rfl) ?_
  obtain ⟨r1, bs2, e2, p1, q1, hb2⟩ := take_F2 _ 6 bs1 hb1 (by decide) (by decide) (by decide)
  obtain ⟨r2, bs3, e3, p2, q2, hb3⟩ := take_F2 _ 25 bs2 hb2 (by decide) (by decide) (by decide)
  have hsl : (sortU [0, 1, r1, r2]).length < 64 := Nat.lt_of_le_of_lt (sortU_len _) (by simp)
  have es : ssetD [.list [.int 0, .int 1, .int r1, .int r2]] = some (.list (intsD (sortU [0, 1, r1, r2]))) := sset_ints [0, 1, r1, r2] (by simp) hsl
  have hlt := sortU_lt [0, 1, r1, r2]
  have hin : ∀ t ∈ sortU [0, 1, r1, r2], 0 ≤ t ∧ t ≤ 60 := fun t ht => by
    have := (sortU_mem t _).mp ht
    simp at this
    omega
  obtain ⟨ρ', ef, ts, b, x4, x5, x6, x7, x8, x9, x10, x11, x12, _, _, _, _, hρ⟩ := forL_inv (b := bName 4) (F := l_law_3) (fun ds ρ => ∃ (ts : List Int) (b : D) (x4 x5 x6 x7 x8 x9 x10 x11 x12 : Sl), ds = intsD ts ∧ ts.Pairwise (· < ·) ∧ (∀ t ∈ ts, 0 ≤ t ∧ t ≤ 60) ∧
      (b = .none ∨ ∃ m v, b = .int v ∧ Least log m v ∧ ∀ t ∈ ts, m ≤ t) ∧ ρ = [.raw (.ref a), .own bs3, .dat (.tuple (intsD log)), .dat b, x4, x5, x6, x7, x8, x9, x10, x11, x12])
    (fun d ds ρ ⟨ts, b, x4, x5, x6, x7, x8, x9, x10, x11, x12, hd, hp, hi, hbb, hρ⟩ => by
      subst hρ
      cases ts with
      | nil => cases hd
      | cons t ts =>
        rw [intsD_cons] at hd
        injection hd with hd1 hd2
        subst hd1 hd2
        have ht := hi t (by simp)
        have lst := few_least log t ht.1 i1 o1
        obtain ⟨y5, y6, y7, y8, y9, y10, y11, e⟩ := most_turn log l1 i1 o1 t ht b (by
          rcases hbb with z | ⟨m, v, z, lm, hm⟩
          · exact .inl z
          · exact .inr ⟨v, z, least_more (hm t (by simp)) lm lst⟩) (.raw (.ref a)) (.own bs3) x5 x6 x7 x8 x9 x10 x11 x12
        refine ⟨_, _, rfl, e, ts, _, _, y5, y6, y7, y8, y9, y10, y11, x12, rfl, (List.pairwise_cons.mp hp).2, fun u hu => hi u (by simp [hu]), .inr ⟨t, _, rfl, lst, fun u hu => ?_⟩, rfl⟩
        exact Int.le_of_lt ((List.pairwise_cons.mp hp).1 u hu)) (intsD (sortU [0, 1, r1, r2])) [.raw (.ref a), .own bs3, .dat (.tuple (intsD log)), .dat .none, s4, s5, s6, s7, s8, s9, s10, s11, s12]
      ⟨_, _, s4, s5, s6, s7, s8, s9, s10, s11, s12, rfl, hlt, hin, .inl rfl, rfl⟩
  subst hρ
  exact last_ex _ (by simp [-forL, -ssetD, e2, e3, es]; exact ef) ⟨rfl, rfl⟩
theorem law_true (a : Addr) (ns : List Int) (hns : ns.length ≤ 63) : ∃ ρ', b_law a ns (.raw (.ref a) :: List.replicate 12 .nil) = some (.rt (.bool true) ρ') := by
  unfold b_law
  obtain ⟨ρ1, e1, j1⟩ := lawF_ok (i := 1) (n := 5) (a := a) (ns := ns) (by decide) (JL a) (fun ρ h => h.2) (fun bs ρ hb h => law_body a bs ρ hb h) (ρ := .raw (.ref a) :: List.replicate 12 .nil) ⟨rfl, rfl⟩
  refine ⟨ρ1, seq_nx e1 ?_⟩
  have n1 := few_F [0, 2, 4, 20, 25, 40] 2 (by decide) (fun t ht => by simp at ht; omega) (by simp [Srt]) (by decide)
  have n2 := few_F [] 0 (by decide) (fun t ht => by cases ht) .nil (by decide)
  have v1 : fewM [0, 2, 4, 20, 25, 40] 2 = 2 := by decide +kernel
  have v2 : fewM [] 0 = 0 := by decide +kernel
  rw [v1] at n1
  rw [v2] at n2
  simp at n1 n2
  simp [n1, n2]

end My

open PySem PySem.W PyProof.Rows in
set_option maxRecDepth 100000 in
set_option maxHeartbeats 0 in
theorem PySem.Challenge.cw_autosaves_k11_whole_fewest_saves_holds : PySem.Challenge.rw_autosaves_k11_whole_fewest_saves.Holds := by
  w_on; o_law; k_head; (case hw => w_witness2)
  k_fill
  refine L2.walk_of (l := PySem.Challenge.rw_autosaves_k11_whole_fewest_saves) (n := 63) (k := 11) (x := "_law_script") (CX := fun _ => L2.CX0) (sp := fun w => DL.spLaw _) rfl (by decide) rfl ⟨rfl, by decide, by decide⟩ (fun w h Y => PySem.W.kIn_of Y) ?F (fun _ _ a ns hl _ hS => ⟨a, ns, rfl, hS, hl, fun _ => rfl⟩) (fun _ _ _ _ _ h => h)
  case F =>
    intro w mg fa h KX G hmg
    refine' My.all_mk KX G hmg ?a0 ?l0 ?c0 ?k0 ?a1 ?l1 ?c1 ?k1 ?a2 ?l2 ?c2 ?k2 ?a3 ?l3 ?c3 ?k3 ?a4 ?l4 ?c4 ?k4 ?a5 ?l5 ?c5 ?k5 ?a6 ?l6 ?c6 ?k6 ?a7 ?l7 ?c7 ?k7 ?a8 ?l8 ?c8 ?k8 ?a9 ?l9 ?c9 ?k9 ?a10 ?l10 ?c10 ?k10 ?a11 ?l11 ?c11 ?k11 ?a12 ?l12 ?c12 ?k12 ?a13 ?l13 ?c13 ?k13 ?a14 ?l14 ?c14 ?k14 ?a15 ?l15 ?c15 ?k15 ?a16 ?l16 ?c16 ?k16 ?a17 ?l17 ?c17 ?k17 ?a18 ?l18 ?c18 ?k18 ?a19 ?l19 ?c19 ?k19 ?a20 ?l20 ?c20 ?k20 ?z0 ?z1 ?z2 ?z3 ?z4 ?z5 ?z6 ?z7 ?z8 ?z9 ?z10 ?z11 ?z12 ?z13 ?z14 ?w0 ?w1 ?w2 ?w3 My.law_true
    (case a0 => k_is); (case l0 => k_is); (case c0 => k_is); (case k0 => k_is); (case a1 => k_is); (case l1 => k_is); (case c1 => k_is); (case k1 => k_is); (case a2 => k_is); (case l2 => k_is); (case c2 => k_is); (case k2 => k_is); (case a3 => k_is); (case l3 => k_is); (case c3 => k_is); (case k3 => k_is); (case a4 => k_is); (case l4 => k_is); (case c4 => k_is); (case k4 => k_is); (case a5 => k_is); (case l5 => k_is); (case c5 => k_is); (case k5 => k_is); (case a6 => k_is); (case l6 => k_is); (case c6 => k_is); (case k6 => k_is); (case a7 => k_is); (case l7 => k_is); (case c7 => k_is); (case k7 => k_is); (case a8 => k_is); (case l8 => k_is); (case c8 => k_is); (case k8 => k_is); (case a9 => k_is); (case l9 => k_is); (case c9 => k_is); (case k9 => k_is); (case a10 => k_is); (case l10 => k_is); (case c10 => k_is); (case k10 => k_is); (case a11 => k_is); (case l11 => k_is); (case c11 => k_is); (case k11 => k_is); (case a12 => k_is); (case l12 => k_is); (case c12 => k_is); (case k12 => k_is); (case a13 => k_is); (case l13 => k_is); (case c13 => k_is); (case k13 => k_is); (case a14 => k_is); (case l14 => k_is); (case c14 => k_is); (case k14 => k_is); (case a15 => k_is); (case l15 => k_is); (case c15 => k_is); (case k15 => k_is); (case a16 => k_is); (case l16 => k_is); (case c16 => k_is); (case k16 => k_is); (case a17 => k_is); (case l17 => k_is); (case c17 => k_is); (case k17 => k_is); (case a18 => k_is); (case l18 => k_is); (case c18 => k_is); (case k18 => k_is); (case a19 => k_is); (case l19 => k_is); (case c19 => k_is); (case k19 => k_is); (case a20 => k_is); (case l20 => k_is); (case c20 => k_is); (case k20 => k_is); (case z0 => k_is); (case z1 => k_is); (case z2 => k_is); (case z3 => k_is); (case z4 => k_is); (case z5 => k_is); (case z6 => k_is); (case z7 => k_is); (case z8 => k_is); (case z9 => k_is); (case z10 => k_is); (case z11 => k_is); (case z12 => k_is); (case z13 => k_is); (case z14 => k_is); (case w0 => k_is); (case w1 => k_is); (case w2 => k_is); (case w3 => k_is)


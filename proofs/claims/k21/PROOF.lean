import PyProof.Rows.All
import Wide.All
import OpenK.AllK
import Wide.FinOn
import HandS.ForMost
import HandS.Wide
import HandS.TupAny
import HandS.TupMul
import HandS.IsInst
import HandS.Walk
import HandS.Codes
import HandS.Lambda
import HandS.Style
import HandS.Zip
import KE.GoesEnum
import HandS.SortInts
import HandS.Deep
import PyProof.ListMulRoad
import PyProof.FactsAll.tuple_2
import HandS.HotCalls
import HandS.ExcIs
import HandS.Iter
import HandS.Comp
import HandS.Conv
import HandS.Star
import HandS.SetFor
import HandS.Strs
import KE.SortData
import HandS.Remove
import HandS.ExcCtx
import HandS.Defaults
import HandS.EndTab
import HandS.Property
import HandS.ClsMeth
import HandS.SlotsOwn
import PyProof.Conv_bool
import KE.RegKTryMore
import KE.RegKIsAll
import PySem.Challenge.RW_autosaves_k21_documents_step_by_step
set_option Elab.async false
set_option linter.all false
set_option maxRecDepth 100000
set_option maxHeartbeats 4000000
namespace DL
/-- the name of the lambdas that are written in a line -/
def qn (l : Nat) : PySem.Str := if l ≤ 222 then "_law_step.<locals>.<lambda>" else if l ≤ 244 then "law.<locals>.<lambda>" else "<lambda>"
end DL

namespace DL
open PySem PySem.Spec PyProof.Rows L2
abbrev D := PyData
/-! ## all but the tables stay -/
/-- each code object of the table bears its line's name -/
def TabQ (H : Hp) (ps : Array Value) : Prop := TriplesOk ps.toList ∧ ∀ (pos : Pos) (cv : Value), codeAmong pos ps.toList = some cv → ∃ c, cv = .ref c ∧ H c = some (LamX.CodeO c (qn pos.line))
/-- tables stay tables, with code objects of the right names -/
structure Tb (H H' : Hp) : Prop where
  code : ∀ c q, H c = some (LamX.CodeO c q) → H' c = some (LamX.CodeO c q)
  tbl : ∀ b ps, H b = some (HO.tbl ps) → ∃ ps', H' b = some (HO.tbl ps') ∧ (TabQ H ps → TabQ H' ps')
/-- no table, no code object -/
def Pl (H : Hp) (l : Addr) : Prop := (∀ c q, H l ≠ some (LamX.CodeO c q)) ∧ ∀ ps, H l ≠ some (HO.tbl ps)
theorem TabQ.mono {H H' : Hp} {ps : Array Value} (h : TabQ H ps) (k : ∀ c q, H c = some (LamX.CodeO c q) → H' c = some (LamX.CodeO c q)) : TabQ H' ps := ⟨h.1, fun pos cv e => by
  obtain ⟨c, e1, e2⟩ := h.2 pos cv e
  exact ⟨c, e1, k c _ e2⟩⟩
theorem Tb.of {H H' : Hp} (s : ∀ b o, H b = some o → H' b = some o) : Tb H H' := ⟨fun c q e => s c _ e, fun b ps e => ⟨ps, s b _ e, fun z => z.mono fun c q e => s c _ e⟩⟩
theorem Tb.refl (H : Hp) : Tb H H := .of fun _ _ e => e
theorem Tb.trans {H H1 H2 : Hp} (a : Tb H H1) (b : Tb H1 H2) : Tb H H2 := ⟨fun c q e => b.code c q (a.code c q e), fun c ps e => by
  obtain ⟨p1, e1, t1⟩ := a.tbl c ps e
  obtain ⟨p2, e2, t2⟩ := b.tbl c p1 e1
  exact ⟨p2, e2, fun z => t2 (t1 z)⟩⟩
theorem Tb.but {H H' : Hp} {l : Addr} (n : Pl H l) (s : ∀ b o, b ≠ l → H b = some o → H' b = some o) : Tb H H' := by
  have k : ∀ c q, H c = some (LamX.CodeO c q) → H' c = some (LamX.CodeO c q) := fun c q e => s c _ (fun z => n.1 c q (by rw [← z]; exact e)) e
  exact ⟨k, fun b ps e => ⟨ps, s b _ (fun z => n.2 ps (by rw [← z]; exact e)) e, fun z => z.mono k⟩⟩
theorem Tb.upd {H : Hp} {l : Addr} {x : HO} (n : Pl H l) : Tb H (L2.upd H l x) := .but n fun b o h e => by rw [upd_ne h]; exact e
theorem Tb.put {H H3 : Hp} {l : Addr} {x : HO} (s : Tb H H3) (n : Pl H3 l) : Tb H (L2.upd H3 l x) := s.trans (.upd n)
theorem Pl.is {H : Hp} {l : Addr} {u : HO} (h : H l = some u) (h1 : ∀ φ, u ≠ .ext φ) (h2 : ∀ ps, u ≠ .tbl ps) : Pl H l := by
  refine ⟨fun c q z => ?_, fun ps z => ?_⟩
  · rw [h] at z
    exact h1 _ (Option.some.inj z)
  · rw [h] at z
    exact h2 _ (Option.some.inj z)
theorem Pl.none {H : Hp} {l : Addr} (h : H l = Option.none) : Pl H l := by
  refine ⟨fun c q z => ?_, fun ps z => ?_⟩
  · rw [h] at z
    cases z
  · rw [h] at z
    cases z
theorem Pl.lst {H : Hp} {l : Addr} {vs : List V} (h : H l = some (.lst vs)) : Pl H l := .is h (fun φ z => by cases z) fun ps z => by cases z
theorem Pl.ins {H : Hp} {l C dx : Addr} {fs : List (Str × V)} (h : H l = some (.ins C dx fs)) : Pl H l := .is h (fun φ z => by cases z) fun ps z => by cases z
structure Same (H H' : Hp) : Prop where
  keep : ∀ b o, H b = some o → (h : ∀ ps, o ≠ HO.tbl ps := by intro _ z; cases z) → H' b = some o
  tb : Tb H H'
instance {H H' : Hp} : CoeFun (Same H H') (fun _ => ∀ b o, H b = some o → (h : ∀ ps, o ≠ HO.tbl ps := by intro _ z; cases z) → H' b = some o) := ⟨@Same.keep H H'⟩
theorem Same.of {H H' : Hp} (s : ∀ b o, H b = some o → H' b = some o) : Same H H' := ⟨fun b o e _ => s b o e, .of s⟩
theorem Same.refl (H : Hp) : Same H H := .of fun _ _ e => e
theorem Same.trans {H H1 H2 : Hp} (a : Same H H1) (b : Same H1 H2) : Same H H2 := ⟨fun c o e n => b.keep c o (a.keep c o e n) n, a.tb.trans b.tb⟩
/-! ## data at a value -/
mutual
def Rep (O : Addr → Prop) (H : Hp) : D → V → Prop
  | .none, v => v = .non
  | .bool b, v => v = .bl b
  | .int i, v => v = .int i
  | .str x, v => v = .str x
  | .list ds, v => ∃ a vs, v = .ref a ∧ ¬ O a ∧ H a = some (.lst vs) ∧ RepL O H ds vs
  | .tuple ds, v => ∃ a vs, v = .ref a ∧ H a = some (.tup vs) ∧ RepL O H ds vs
  | .dict _, _ => False
def RepL (O : Addr → Prop) (H : Hp) : List D → List V → Prop
  | [], vs => vs = []
  | d :: ds, vs => ∃ v ws, vs = v :: ws ∧ Rep O H d v ∧ RepL O H ds ws
end
structure Mv (O : Addr → Prop) (H : Hp) (O' : Addr → Prop) (H' : Hp) : Prop where
  keep : ∀ b o, H b = some o → ((∀ vs, o ≠ .lst vs) ∨ ¬ O b) → (h : ∀ ps, o ≠ HO.tbl ps := by intro _ z; cases z) → H' b = some o
  out : ∀ b, O' b → O b ∨ H b = none
mutual
theorem Rep.mv {O O' : Addr → Prop} {H H' : Hp} (m : Mv O H O' H') : ∀ (d : D) (v : V), Rep O H d v → Rep O' H' d v
  | .none, v, h => by simpa only [Rep] using h
  | .bool b, v, h => by simpa only [Rep] using h
  | .int b, v, h => by simpa only [Rep] using h
  | .str b, v, h => by simpa only [Rep] using h
  | .list ds, v, h => by
    simp only [Rep] at h ⊢
    obtain ⟨a, vs, rfl, no, ha, r⟩ := h
    refine ⟨a, vs, rfl, fun q => ?_, m.keep a _ ha (.inr no), RepL.mv m ds vs r⟩
    rcases m.out a q with z | z
    · exact no z
    · rw [ha] at z; cases z
  | .tuple ds, v, h => by
    simp only [Rep] at h ⊢
    obtain ⟨a, vs, rfl, ha, r⟩ := h
    exact ⟨a, vs, rfl, m.keep a _ ha (.inl fun vs z => by cases z), RepL.mv m ds vs r⟩
  | .dict _, v, h => by simp only [Rep] at h
theorem RepL.mv {O O' : Addr → Prop} {H H' : Hp} (m : Mv O H O' H') : ∀ (ds : List D) (vs : List V), RepL O H ds vs → RepL O' H' ds vs
  | [], vs, h => by simpa only [RepL] using h
  | d :: ds, vs, h => by
    simp only [RepL] at h ⊢
    obtain ⟨v, ws, rfl, r1, r2⟩ := h
    exact ⟨v, ws, rfl, Rep.mv m d v r1, RepL.mv m ds ws r2⟩
end
theorem Mv.same {O : Addr → Prop} {H H' : Hp} (s : Same H H') : Mv O H O H' := ⟨fun b o e _ n => s.keep b o e n, fun _ h => .inl h⟩
theorem Mv.less {O O' : Addr → Prop} {H : Hp} (s : ∀ b, O' b → O b) : Mv O H O' H := ⟨fun _ _ e _ _ => e, fun b h => .inl (s b h)⟩
theorem Mv.fresh {O : Addr → Prop} {H : Hp} {p : Addr} (hp : H p = none) : Mv O H (fun b => O b ∨ b = p) H := ⟨fun _ _ e _ _ => e, fun b h => by
  rcases h with h | rfl
  · exact .inl h
  · exact .inr hp⟩
theorem Rep.same {O : Addr → Prop} {H H' : Hp} {d : D} {v : V} (s : Same H H') (h : Rep O H d v) : Rep O H' d v := Rep.mv (.same s) d v h
theorem RepL.same {O : Addr → Prop} {H H' : Hp} {ds : List D} {vs : List V} (s : Same H H') (h : RepL O H ds vs) : RepL O H' ds vs := RepL.mv (.same s) ds vs h
theorem Rep.less {O O' : Addr → Prop} {H : Hp} {d : D} {v : V} (s : ∀ b, O' b → O b) (h : Rep O H d v) : Rep O' H d v := Rep.mv (.less s) d v h
theorem RepL.less {O O' : Addr → Prop} {H : Hp} {ds : List D} {vs : List V} (s : ∀ b, O' b → O b) (h : RepL O H ds vs) : RepL O' H ds vs := RepL.mv (.less s) ds vs h
theorem RepL.length {O : Addr → Prop} {H : Hp} : ∀ {ds : List D} {vs : List V}, RepL O H ds vs → ds.length = vs.length
  | [], vs, h => by simp only [RepL] at h; subst h; rfl
  | d :: ds, vs, h => by
    simp only [RepL] at h
    obtain ⟨v, ws, rfl, _, r⟩ := h
    simp only [List.length_cons, RepL.length r]
theorem RepL.get {O : Addr → Prop} {H : Hp} : ∀ {ds : List D} {vs : List V} {i : Nat} {d : D}, RepL O H ds vs → ds[i]? = some d → ∃ v, vs[i]? = some v ∧ Rep O H d v
  | [], vs, i, d, h, e => by simp at e
  | d :: ds, vs, 0, d', h, e => by
    simp only [RepL] at h
    obtain ⟨v, ws, rfl, r1, r⟩ := h
    simp at e; subst e
    exact ⟨v, rfl, r1⟩
  | d :: ds, vs, i + 1, d', h, e => by
    simp only [RepL] at h
    obtain ⟨v, ws, rfl, r1, r⟩ := h
    obtain ⟨u, h1, h2⟩ := RepL.get (i := i) r (by simpa using e)
    exact ⟨u, by simpa using h1, h2⟩
theorem RepL.getV {O : Addr → Prop} {H : Hp} {ds : List D} {vs : List V} {i : Nat} {v : V} (h : RepL O H ds vs) (e : vs[i]? = some v) : ∃ d, ds[i]? = some d ∧ Rep O H d v := by
  have hl := h.length
  have hi : i < vs.length := (List.getElem?_eq_some_iff.mp e).1
  obtain ⟨u, e1, r⟩ := h.get (i := i) (d := ds[i]) (by simp [hl, hi])
  rw [e] at e1; cases e1
  exact ⟨_, by simp [hl, hi], r⟩
theorem RepL.append {O : Addr → Prop} {H : Hp} : ∀ {ds es : List D} {vs ws : List V}, RepL O H ds vs → RepL O H es ws → RepL O H (ds ++ es) (vs ++ ws)
  | [], es, vs, ws, h, h' => by simp only [RepL] at h; subst h; exact h'
  | d :: ds, es, vs, ws, h, h' => by
    simp only [RepL] at h
    obtain ⟨v, us, rfl, r1, r⟩ := h
    simp only [List.cons_append, RepL]
    exact ⟨v, us ++ ws, rfl, r1, RepL.append r h'⟩
theorem RepL.one {O : Addr → Prop} {H : Hp} {d : D} {v : V} (h : Rep O H d v) : RepL O H [d] [v] := by
  simp only [RepL]
  exact ⟨v, [], rfl, h, rfl⟩
theorem RepL.nil {O : Addr → Prop} {H : Hp} : RepL O H [] [] := by simp only [RepL]
theorem RepL.cons {O : Addr → Prop} {H : Hp} {d : D} {v : V} {ds : List D} {vs : List V} (h : Rep O H d v) (h' : RepL O H ds vs) : RepL O H (d :: ds) (v :: vs) := by
  simp only [RepL]
  exact ⟨v, vs, rfl, h, h'⟩
theorem RepL.take {O : Addr → Prop} {H : Hp} : ∀ {ds : List D} {vs : List V} (n : Nat), RepL O H ds vs → RepL O H (ds.take n) (vs.take n)
  | _, _, 0, _ => by simpa using RepL.nil
  | [], vs, n + 1, h => by simp only [RepL] at h; subst h; simpa using RepL.nil
  | d :: ds, vs, n + 1, h => by
    simp only [RepL] at h
    obtain ⟨v, us, rfl, r1, r⟩ := h
    exact RepL.cons r1 (RepL.take n r)
theorem RepL.drop {O : Addr → Prop} {H : Hp} : ∀ {ds : List D} {vs : List V} (n : Nat), RepL O H ds vs → RepL O H (ds.drop n) (vs.drop n)
  | _, _, 0, h => by simpa using h
  | [], vs, n + 1, h => by simp only [RepL] at h; subst h; simpa using RepL.nil
  | d :: ds, vs, n + 1, h => by
    simp only [RepL] at h
    obtain ⟨v, us, rfl, r1, r⟩ := h
    exact RepL.drop n r
theorem RepL.set {O : Addr → Prop} {H : Hp} {d : D} {v : V} (hr : Rep O H d v) : ∀ {ds : List D} {vs : List V} (n : Nat), RepL O H ds vs → RepL O H (ds.set n d) (vs.set n v)
  | [], vs, n, h => by simp only [RepL] at h; subst h; simpa using RepL.nil
  | e :: ds, vs, 0, h => by
    simp only [RepL] at h
    obtain ⟨w, us, rfl, r1, r⟩ := h
    exact RepL.cons hr r
  | e :: ds, vs, n + 1, h => by
    simp only [RepL] at h
    obtain ⟨w, us, rfl, r1, r⟩ := h
    exact RepL.cons r1 (RepL.set hr n r)
theorem RepL.dropLast {O : Addr → Prop} {H : Hp} {ds : List D} {vs : List V} (h : RepL O H ds vs) : RepL O H ds.dropLast vs.dropLast := by
  rw [List.dropLast_eq_take, List.dropLast_eq_take, h.length]
  exact h.take _
theorem RepL.reverse {O : Addr → Prop} {H : Hp} : ∀ {ds : List D} {vs : List V}, RepL O H ds vs → RepL O H ds.reverse vs.reverse
  | [], vs, h => by simp only [RepL] at h; subst h; exact RepL.nil
  | d :: ds, vs, h => by
    simp only [RepL] at h
    obtain ⟨w, us, rfl, r1, r⟩ := h
    simp only [List.reverse_cons]
    exact RepL.append (RepL.reverse r) (RepL.one r1)
mutual
theorem Rep.dp {K : PySem.W.Frag} {O : Addr → Prop} {H : Hp} : ∀ {d : D} {v : V}, Rep O H d v → Dp K H v d
  | .none, v, h => by simp only [Rep] at h; subst h; exact .non
  | .bool b, v, h => by simp only [Rep] at h; subst h; exact .bl b
  | .int b, v, h => by simp only [Rep] at h; subst h; exact .int b
  | .str b, v, h => by simp only [Rep] at h; subst h; exact .str b
  | .list ds, v, h => by
    simp only [Rep] at h
    obtain ⟨a, vs, rfl, no, ha, r⟩ := h
    exact .lst (.of ha) (RepL.dp r)
  | .tuple ds, v, h => by
    simp only [Rep] at h
    obtain ⟨a, vs, rfl, ha, r⟩ := h
    exact .tup (.of ha) (RepL.dp r)
  | .dict _, v, h => by simp only [Rep] at h
theorem RepL.dp {K : PySem.W.Frag} {O : Addr → Prop} {H : Hp} : ∀ {ds : List D} {vs : List V}, RepL O H ds vs → DpAll K H vs ds
  | [], vs, h => by simp only [RepL] at h; subst h; exact .nil
  | d :: ds, vs, h => by
    simp only [RepL] at h
    obtain ⟨v, us, rfl, r1, r⟩ := h
    exact .cons (Rep.dp r1) (RepL.dp r)
end
/-! ### data without lists -/
mutual
@[simp] def imm : D → Bool
  | .list _ => false
  | .tuple ds => immL ds
  | .dict _ => false
  | .none => true
  | .bool _ => true
  | .int _ => true
  | .str _ => true
@[simp] def immL : List D → Bool
  | [] => true
  | d :: ds => imm d && immL ds
end
mutual
theorem Rep.imm {O O' : Addr → Prop} {H : Hp} : ∀ {d : D} {v : V}, imm d = true → Rep O H d v → Rep O' H d v
  | .none, v, _, h => by simpa only [Rep] using h
  | .bool b, v, _, h => by simpa only [Rep] using h
  | .int b, v, _, h => by simpa only [Rep] using h
  | .str b, v, _, h => by simpa only [Rep] using h
  | .list ds, v, q, h => by simp [DL.imm] at q
  | .tuple ds, v, q, h => by
    simp only [Rep] at h ⊢
    obtain ⟨a, vs, rfl, ha, r⟩ := h
    exact ⟨a, vs, rfl, ha, RepL.imm (by simpa [DL.imm] using q) r⟩
  | .dict _, v, q, h => by simp [DL.imm] at q
theorem RepL.imm {O O' : Addr → Prop} {H : Hp} : ∀ {ds : List D} {vs : List V}, immL ds = true → RepL O H ds vs → RepL O' H ds vs
  | [], vs, _, h => by simpa only [RepL] using h
  | d :: ds, vs, q, h => by
    simp only [RepL] at h ⊢
    obtain ⟨v, us, rfl, r1, r⟩ := h
    have q' : DL.imm d = true ∧ immL ds = true := by simpa [immL] using q
    exact ⟨v, us, rfl, Rep.imm q'.1 r1, RepL.imm q'.2 r⟩
end
end DL

set_option autoImplicit false
namespace DL
open PySem PySem.Spec
open PyProof.Rows hiding St
open L2
/-! ## data without lists -/
def NO : Addr → Prop := fun _ => False
mutual
def flat : D → Bool
  | .list _ => false
  | .tuple ds => flatL ds
  | .dict _ => false
  | .none => true
  | .bool _ => true
  | .int _ => true
  | .str _ => true
def flatL : List D → Bool
  | [] => true
  | d :: ds => flat d && flatL ds
end
mutual
theorem rep_flat {O O' : Addr → Prop} {H : Hp} : ∀ (d : D) (v : V), flat d = true → Rep O H d v → Rep O' H d v
  | .none, v, f, h => by simpa only [Rep] using h
  | .bool b, v, f, h => by simpa only [Rep] using h
  | .int b, v, f, h => by simpa only [Rep] using h
  | .str b, v, f, h => by simpa only [Rep] using h
  | .list ds, v, f, h => by simp [flat] at f
  | .tuple ds, v, f, h => by
    simp only [Rep] at h ⊢
    obtain ⟨a, vs, rfl, ha, r⟩ := h
    exact ⟨a, vs, rfl, ha, repL_flat ds vs (by simpa [flat] using f) r⟩
  | .dict _, v, f, h => by simp only [Rep] at h
theorem repL_flat {O O' : Addr → Prop} {H : Hp} : ∀ (ds : List D) (vs : List V), flatL ds = true → RepL O H ds vs → RepL O' H ds vs
  | [], vs, f, h => by simpa only [RepL] using h
  | d :: ds, vs, f, h => by
    simp only [RepL] at h ⊢
    obtain ⟨v, ws, rfl, r1, r2⟩ := h
    simp only [flatL, Bool.and_eq_true] at f
    exact ⟨v, ws, rfl, rep_flat d v f.1 r1, repL_flat ds ws f.2 r2⟩
end
theorem flatL_app : ∀ (ds es : List D), flatL (ds ++ es) = (flatL ds && flatL es)
  | [], es => by simp [flatL]
  | d :: ds, es => by simp [flatL, flatL_app ds es, Bool.and_assoc]
theorem flatL_mem : ∀ {ds : List D} {d : D}, flatL ds = true → d ∈ ds → flat d = true
  | e :: ds, d, h, m => by
    simp only [flatL, Bool.and_eq_true] at h
    rcases List.mem_cons.mp m with rfl | m
    · exact h.1
    · exact flatL_mem h.2 m
/-! ## a document: its rule, its list of states -/
def dfs (vr : V) (l : Addr) : List (Str × V) := putF "states" (.ref l) (putF "rule" vr [])
theorem rs_ne : ¬ (("rule" : Str) = "states") := by decide +kernel
theorem dfs_rule (vr : V) (l : Addr) : (dfs vr l).lookup ("rule" : Str) = some vr := by
  unfold dfs
  rw [lookup_putF, if_neg rs_ne, lookup_putF, if_pos rfl]
theorem dfs_states (vr : V) (l : Addr) : (dfs vr l).lookup ("states" : Str) = some (.ref l) := by
  unfold dfs
  rw [lookup_putF, if_pos rfl]
theorem dfs_no (vr : V) (l : Addr) {m : Str} (h1 : ¬ m = "rule") (h2 : ¬ m = "states") : (dfs vr l).lookup m = none := by
  unfold dfs
  rw [lookup_putF, if_neg h2, lookup_putF, if_neg h1]
  all_goals rfl
structure DocAt (C : Addr) (H : Hp) (a l : Addr) (rl : D) (sts : List D) : Prop where
  ob : ∃ dx vr, H a = some (.ins C dx (dfs vr l)) ∧ Rep NO H rl vr
  ls : ∃ us, H l = some (.lst us) ∧ RepL NO H sts us
  fr : flat rl = true
  fs : flatL sts = true
mutual
theorem rep_tups {O O' : Addr → Prop} {H H' : Hp} (k : ∀ b vs, H b = some (.tup vs) → H' b = some (.tup vs)) : ∀ (d : D) (v : V), flat d = true → Rep O H d v → Rep O' H' d v
  | .none, v, f, h => by simpa only [Rep] using h
  | .bool b, v, f, h => by simpa only [Rep] using h
  | .int b, v, f, h => by simpa only [Rep] using h
  | .str b, v, f, h => by simpa only [Rep] using h
  | .list ds, v, f, h => by simp [flat] at f
  | .tuple ds, v, f, h => by
    simp only [Rep] at h ⊢
    obtain ⟨a, vs, rfl, ha, r⟩ := h
    exact ⟨a, vs, rfl, k a vs ha, repL_tups k ds vs (by simpa [flat] using f) r⟩
  | .dict _, v, f, h => by simp only [Rep] at h
theorem repL_tups {O O' : Addr → Prop} {H H' : Hp} (k : ∀ b vs, H b = some (.tup vs) → H' b = some (.tup vs)) : ∀ (ds : List D) (vs : List V), flatL ds = true → RepL O H ds vs → RepL O' H' ds vs
  | [], vs, f, h => by simpa only [RepL] using h
  | d :: ds, vs, f, h => by
    simp only [RepL] at h ⊢
    obtain ⟨v, ws, rfl, r1, r2⟩ := h
    simp only [flatL, Bool.and_eq_true] at f
    exact ⟨v, ws, rfl, rep_tups k d v f.1 r1, repL_tups k ds ws f.2 r2⟩
end
section
variable {C a l : Addr} {rl : D} {sts : List D} {H H' : Hp}
theorem DocAt.same (d : DocAt C H a l rl sts) (s : Same H H') : DocAt C H' a l rl sts := by
  obtain ⟨⟨dx, vr, h1, r1⟩, ⟨us, h2, r2⟩, f1, f2⟩ := d
  exact ⟨⟨dx, vr, s _ _ h1, r1.same s⟩, ⟨us, s _ _ h2, r2.same s⟩, f1, f2⟩
theorem DocAt.mv {O O' : Addr → Prop} (d : DocAt C H a l rl sts) (m : Mv O H O' H') (hl : ∀ us, H l = some (.lst us) → H' l = some (.lst us)) : DocAt C H' a l rl sts := by
  obtain ⟨⟨dx, vr, h1, r1⟩, ⟨us, h2, r2⟩, f1, f2⟩ := d
  have k : ∀ b vs, H b = some (.tup vs) → H' b = some (.tup vs) := fun b vs e => m.keep b _ e (.inl fun vs z => by cases z)
  exact ⟨⟨dx, vr, m.keep _ _ h1 (.inl fun vs z => by cases z), rep_tups k _ _ f1 r1⟩, ⟨us, hl us h2, repL_tups k _ _ f2 r2⟩, f1, f2⟩
end
end DL

namespace DL
open PySem PySem.Spec
open PyProof.Rows hiding St
open L2
/-! ## environments of data -/
inductive Sl where
  | nil | dat (d : D) | own (ds : List D) | bag (ds : List D) | raw (v : V) | lam (ks : List Nat) | doc (C a l : Addr) (rl : D) (sts : List D)
abbrev Rho := List Sl
structure Base where
  H0 : Hp
  O0 : Addr → Prop
  R : Addr → Prop
  lam : Nat → Addr → Addr → HO
  lq : Str
def nolam : Nat → Addr → Addr → HO := fun _ _ _ => .lst []
/-- the objects at fs are lambdas of the kinds ks -/
def LamAll (B : Base) (H : Hp) : List Addr → List Nat → Prop := Paired fun f k => ∃ c, H f = some (B.lam k f c) ∧ (∃ φ, B.lam k f c = .ext φ) ∧ H c = some (LamX.CodeO c B.lq)
def SlOk (B : Base) (O : Addr → Prop) (H : Hp) : Sl → Option (Option V) → Prop
  | .nil, _ => True
  | .dat d, o => ∃ v, o = some (some v) ∧ Rep O H d v
  | .own ds, o => ∃ a vs, o = some (some (.ref a)) ∧ O a ∧ ¬ B.O0 a ∧ B.H0 a = none ∧ H a = some (.lst vs) ∧ RepL O H ds vs
  | .bag ds, o => ∃ a vs, o = some (some (.ref a)) ∧ B.R a ∧ O a ∧ H a = some (.lst vs) ∧ RepL O H ds vs
  | .raw v, o => o = some (some v)
  | .lam ks, o => ∃ a fs, o = some (some (.ref a)) ∧ ¬ O a ∧ H a = some (.lst (fs.map V.ref)) ∧ LamAll B H fs ks
  | .doc C a l rl sts, o => o = some (some (.ref a)) ∧ O l ∧ (B.R l ∨ (¬ B.O0 l ∧ B.H0 l = none)) ∧ DocAt C H a l rl sts
theorem LamAll.keep {B : Base} {H H' : Hp} {fs : List Addr} {ks : List Nat} (h : LamAll B H fs ks) (k : ∀ b φ, H b = some (.ext φ) → H' b = some (.ext φ)) : LamAll B H' fs ks :=
  Paired.mapP h fun f j ⟨c, e1, ⟨φ, e2⟩, e3⟩ => ⟨c, by rw [e2] at e1 ⊢; exact k f φ e1, ⟨φ, e2⟩, k c _ e3⟩
def isOwn : Sl → Bool
  | .own _ => true
  | .bag _ => true
  | .doc _ _ _ _ _ => true
  | _ => false
/-- the list that a slot owns -/
@[reducible] def adr : Sl → Option (Option V) → Addr → Prop
  | .doc _ _ l _ _, _, b => l = b
  | _, o, b => o = some (some (.ref b))
def Wof (σ : St) (ρ : Rho) (b : Addr) : Prop := ∃ (i : Nat) (s : Sl), ρ[i]? = some s ∧ isOwn s = true ∧ adr s σ[i]? b
structure FrB (B : Base) (H : Hp) : Prop where
  keep : ∀ b o, B.H0 b = some o → ¬ B.R b → (h : ∀ ps, o ≠ HO.tbl ps := by intro _ z; cases z) → H b = some o
  tb : Tb B.H0 H
instance {B : Base} {H : Hp} : CoeFun (FrB B H) (fun _ => ∀ b o, B.H0 b = some o → ¬ B.R b → (h : ∀ ps, o ≠ HO.tbl ps := by intro _ z; cases z) → H b = some o) := ⟨@FrB.keep B H⟩
theorem FrB.same {B : Base} {H H' : Hp} (f : FrB B H) (s : Same H H') : FrB B H' := ⟨fun b o e n t => s.keep b o (f.keep b o e n t) t, f.tb.trans s.tb⟩
theorem FrB.put {B : Base} {H : Hp} {l : Addr} {x : HO} (f : FrB B H) (hl : B.H0 l = none) (n : Pl H l) : FrB B (upd H l x) := ⟨fun c y e n t => by rw [upd_ne (ne_of_none e hl)]; exact f.keep c y e n t, f.tb.put n⟩
structure ButB (a : Addr) (H H' : Hp) : Prop where
  keep : ∀ b o, b ≠ a → H b = some o → (h : ∀ ps, o ≠ HO.tbl ps := by intro _ z; cases z) → H' b = some o
  tb : Tb H H'
theorem ButB.of {a : Addr} {H H' : Hp} (n : Pl H a) (s : ∀ b o, b ≠ a → H b = some o → H' b = some o) : ButB a H H' := ⟨fun b o n e _ => s b o n e, .but n s⟩
theorem FrB.out {B : Base} {H : Hp} (f : FrB B H) (n : ∀ b, ¬ B.R b) : Same B.H0 H := ⟨fun b o e t => f.keep b o e (n b) t, f.tb⟩
theorem FrB.start {H : Hp} {O R : Addr → Prop} {L : Nat → Addr → Addr → HO} {q : Str} : FrB ⟨H, O, R, L, q⟩ H := ⟨fun _ _ e _ _ => e, .refl _⟩
structure Good (B : Base) (O : Addr → Prop) (σ : St) (H : Hp) (ρ : Rho) : Prop where
  len : σ.length = ρ.length
  frame : FrB B H
  o0 : ∀ b, B.O0 b → B.H0 b ≠ none
  r0 : ∀ b, B.R b → B.O0 b
  osub : ∀ b, B.O0 b → O b
  otrk : ∀ b, O b → H b ≠ none
  h0 : ∀ b, B.H0 b ≠ none → H b ≠ none
  slots : ∀ (i : Nat) s, ρ[i]? = some s → SlOk B O H s σ[i]?
  sep : ∀ (i j : Nat) s t b, ρ[i]? = some s → ρ[j]? = some t → isOwn s = true → isOwn t = true → adr s σ[i]? b → adr t σ[j]? b → i = j
def Otr (O : Addr → Prop) (H : Hp) : Prop := ∀ b, O b → H b ≠ none
theorem some_ne {H : Hp} {b : Addr} {o : HO} (h : H b = some o) : H b ≠ none := by rw [h]; exact fun z => nomatch z
theorem Same.ne {H H' : Hp} (s : Same H H') {b : Addr} (h : H b ≠ none) : H' b ≠ none := by
  cases e : H b with
  | none => exact absurd e h
  | some o =>
    by_cases t : ∃ ps, o = HO.tbl ps
    · obtain ⟨ps, rfl⟩ := t
      obtain ⟨ps', e', _⟩ := s.tb.tbl b ps e
      exact some_ne e'
    · exact some_ne (s.keep b o e fun ps z => t ⟨ps, z⟩)
theorem Same.put {H H3 : Hp} {l : Addr} {x : HO} (s : Same H H3) (hl : H l = none) (n : Pl H3 l) : Same H (upd H3 l x) := ⟨fun c y e t => by rw [upd_ne (ne_of_none e hl)]; exact s.keep c y e t, s.tb.put n⟩
theorem Same.seq {K : PySem.W.Frag} {H H' : Hp} {a : Addr} {xs : List V} (e : Same H H') (h : SqL K H a xs) : SqL K H' a xs := by
  rcases h with (h | ⟨o, h⟩) | h
  · exact .inl (.inl (e.keep _ _ h))
  · exact .inl (.inr ⟨o, e.keep _ _ h⟩)
  · exact .inr h
theorem Same.free {H H' : Hp} (e : Same H H') {l : Addr} (h : H' l = none) : H l = none := by
  cases q : H l with
  | none => rfl
  | some o => exact absurd h (e.ne (some_ne q))
theorem Otr.same {O : Addr → Prop} {H H' : Hp} (t : Otr O H) (s : Same H H') : Otr O H' := fun b h => s.ne (t b h)
section
variable {B : Base} {O : Addr → Prop} {σ : St} {H H' : Hp} {ρ : Rho}
theorem SlOk.mvD {O' : Addr → Prop} {C a l : Addr} {rl : D} {sts : List D} {o : Option (Option V)} (m : Mv O H O' H') (ho : O l → O' l) (hl : ∀ us, H l = some (.lst us) → H' l = some (.lst us)) (h : SlOk B O H (.doc C a l rl sts) o) : SlOk B O' H' (.doc C a l rl sts) o := by
  obtain ⟨e, h1, h2, d⟩ := h
  exact ⟨e, ho h1, h2, d.mv m hl⟩
theorem SlOk.mv {O' : Addr → Prop} {s : Sl} {o : Option (Option V)} (m : Mv O H O' H') (hs : isOwn s = false) (h : SlOk B O H s o) : SlOk B O' H' s o := by
  cases s with
  | doc C a l rl sts => cases hs
  | nil => trivial
  | dat d => obtain ⟨v, e, r⟩ := h; exact ⟨v, e, Rep.mv m d v r⟩
  | own ds => cases hs
  | bag ds => cases hs
  | raw v => exact h
  | lam ks =>
    obtain ⟨a, fs, e, no, ha, hl⟩ := h
    exact ⟨a, fs, e, fun z => (m.out a z).elim no fun q => (by rw [ha] at q; cases q), m.keep a _ ha (.inr no), hl.keep fun b φ q => m.keep b _ q (.inl fun vs z => by cases z)⟩
theorem SlOk.same {s : Sl} {o : Option (Option V)} (m : Same H H') (h : SlOk B O H s o) : SlOk B O H' s o := by
  cases s with
  | doc C a l rl sts => obtain ⟨e, h1, h2, d⟩ := h; exact ⟨e, h1, h2, d.same m⟩
  | nil => trivial
  | dat d => obtain ⟨v, e, r⟩ := h; exact ⟨v, e, r.same m⟩
  | own ds => obtain ⟨a, vs, e, h1, h2, h3, h4, r⟩ := h; exact ⟨a, vs, e, h1, h2, h3, m a _ h4, r.same m⟩
  | bag ds => obtain ⟨a, vs, e, h1, h2, h4, r⟩ := h; exact ⟨a, vs, e, h1, h2, m a _ h4, r.same m⟩
  | raw v => exact h
  | lam ks =>
    obtain ⟨a, fs, e, no, ha, hl⟩ := h
    exact ⟨a, fs, e, no, m a _ ha, hl.keep fun b φ q => m b _ q⟩
theorem Good.same (g : Good B O σ H ρ) (s : Same H H') : Good B O σ H' ρ :=
  ⟨g.len, g.frame.same s, g.o0, g.r0, g.osub, fun b h => s.ne (g.otrk b h), fun b h => s.ne (g.h0 b h), fun i t e => (g.slots i t e).same s, g.sep⟩
theorem Good.fresh (g : Good B O σ H ρ) {p : Addr} (hp : H p = none) : ¬ O p ∧ ¬ B.O0 p ∧ B.H0 p = none :=
  ⟨fun z => g.otrk p z hp, fun z => g.otrk p (g.osub p z) hp, by
    cases e : B.H0 p with
    | none => rfl
    | some o => exact absurd hp (g.h0 p (some_ne e))⟩
theorem Good.wof (g : Good B O σ H ρ) {b : Addr} (h : Wof σ ρ b) : O b ∧ ∃ vs, H b = some (.lst vs) := by
  obtain ⟨i, s, e1, e2, e3⟩ := h
  have k := g.slots i s e1
  cases s with
  | nil => cases e2
  | dat d => cases e2
  | doc C a l rl sts =>
    obtain ⟨_, h1, _, ⟨_, ⟨us, h2, _⟩, _, _⟩⟩ := k
    have e3 : l = b := e3
    subst e3
    exact ⟨h1, us, h2⟩
  | own ds =>
    obtain ⟨a, vs, e, h1, _, _, h4, _⟩ := k
    have e3 : σ[i]? = some (some (.ref b)) := e3
    rw [e3] at e; cases e
    exact ⟨h1, vs, h4⟩
  | bag ds =>
    obtain ⟨a, vs, e, _, h1, h4, _⟩ := k
    have e3 : σ[i]? = some (some (.ref b)) := e3
    rw [e3] at e; cases e
    exact ⟨h1, vs, h4⟩
  | raw v => cases e2
  | lam ks => cases e2
end
/-! ## what an expression may change -/
structure Keep (W : Addr → Prop) (H H' : Hp) : Prop where
  keep : ∀ b o, H b = some o → ¬ W b → (h : ∀ ps, o ≠ HO.tbl ps := by intro _ z; cases z) → H' b = some o
  tb : Tb H H'
  lst : ∀ b vs, H b = some (.lst vs) → ∃ vs', H' b = some (.lst vs')
theorem Keep.of {W : Addr → Prop} {H H' : Hp} (s : Same H H') : Keep W H H' := ⟨fun b o e _ t => s.keep b o e t, s.tb, fun b vs e => ⟨vs, s b _ e⟩⟩
theorem Keep.trans {W W' : Addr → Prop} {H H1 H2 : Hp} (a : Keep W H H1) (b : Keep W' H1 H2) (w : ∀ b, W' b → W b ∨ H b = none) : Keep W H H2 :=
  ⟨fun c o e n t => b.keep c o (a.keep c o e n t) (fun z => by
    rcases w c z with z | z
    · exact n z
    · rw [e] at z
      cases z) t, a.tb.trans b.tb, fun c vs e => by
    obtain ⟨vs1, e1⟩ := a.lst c vs e
    exact b.lst c vs1 e1⟩
theorem Keep.ne {W : Addr → Prop} {H H' : Hp} (k : Keep W H H') (hw : ∀ b, W b → ∃ vs, H b = some (.lst vs)) {b : Addr} (h : H b ≠ none) : H' b ≠ none := by
  cases e : H b with
  | none => exact absurd e h
  | some o =>
    by_cases q : W b
    · obtain ⟨vs, e1⟩ := hw b q
      obtain ⟨vs', e2⟩ := k.lst b vs e1
      exact some_ne e2
    · by_cases t : ∃ ps, o = HO.tbl ps
      · obtain ⟨ps, rfl⟩ := t
        obtain ⟨ps', e', _⟩ := k.tb.tbl b ps e
        exact some_ne e'
      · exact some_ne (k.keep b o e q fun ps z => t ⟨ps, z⟩)
section
variable {B : Base} {O O' : Addr → Prop} {σ : St} {H H' : Hp} {ρ ρ' : Rho}
theorem Good.mv (g : Good B O σ H ρ) (k : Keep (Wof σ ρ) H H') (ho : ∀ b, O' b → O b ∨ H b = none) : Mv O H O' H' :=
  ⟨fun b o e q t => k.keep b o e (fun z => by
    obtain ⟨h1, vs, h2⟩ := g.wof z
    rcases q with q | q
    · rw [e] at h2; cases h2; exact q vs rfl
    · exact q h1) t, ho⟩
theorem Good.rep (g : Good B O σ H ρ) (k : Keep (Wof σ ρ) H H') {d : D} {v : V} (h : Rep O H d v) : Rep O H' d v := Rep.mv (g.mv k fun _ h => .inl h) d v h
theorem Good.repL (g : Good B O σ H ρ) (k : Keep (Wof σ ρ) H H') {ds : List D} {vs : List V} (h : RepL O H ds vs) : RepL O H' ds vs := RepL.mv (g.mv k fun _ h => .inl h) ds vs h
end
inductive Md where | str | bas
def Md.O (m : Md) (B : Base) (O : Addr → Prop) : Addr → Prop := match m with | .str => O | .bas => B.O0
theorem Good.mO {B : Base} {O : Addr → Prop} {σ : St} {H : Hp} {ρ : Rho} (g : Good B O σ H ρ) (m : Md) : ∀ b, m.O B O b → O b := by
  cases m with
  | str => exact fun _ h => h
  | bas => exact g.osub
theorem Good.otr {B : Base} {O : Addr → Prop} {σ : St} {H : Hp} {ρ : Rho} (g : Good B O σ H ρ) (m : Md) : Otr (m.O B O) H := fun b h => g.otrk b (g.mO m b h)
/-! ## judgements -/
def tP (B : Base) (m : Md) (g : Rho → Option D) : TE := fun σ H Q => ∃ O ρ d, Good B O σ H ρ ∧ g ρ = some d ∧ ∀ v H', Same H H' → Rep (m.O B O) H' d v → Q v H'
def tPA (B : Base) (m : Md) (g : Rho → Option (List D)) : TA := fun σ H Q => ∃ O ρ ds, Good B O σ H ρ ∧ g ρ = some ds ∧ ∀ vs H', Same H H' → RepL (m.O B O) H' ds vs → Q vs H'
def tPT (B : Base) (g : Rho → Option Bool) : TT := fun σ H Q => ∃ O ρ c, Good B O σ H ρ ∧ g ρ = some c ∧ ∀ H', Same H H' → Q c H'
structure Ext (B : Base) (O : Addr → Prop) (σ : St) (H : Hp) (ρ : Rho) (H' : Hp) (ρ' : Rho) : Prop where
  keep : Keep (Wof σ ρ) H H'
  w : ∀ b, Wof σ ρ' b → Wof σ ρ b
  good : Good B O σ H' ρ'
def tE (B : Base) (f : Rho → Option (D × Rho)) : TE := fun σ H Q => ∃ O ρ d ρ', Good B O σ H ρ ∧ f ρ = some (d, ρ') ∧ ∀ v H', Ext B O σ H ρ H' ρ' → Rep O H' d v → Q v H'
def tEA (B : Base) (f : Rho → Option (List D × Rho)) : TA := fun σ H Q => ∃ O ρ ds ρ', Good B O σ H ρ ∧ f ρ = some (ds, ρ') ∧ ∀ vs H', Ext B O σ H ρ H' ρ' → RepL O H' ds vs → Q vs H'
def tET (B : Base) (f : Rho → Option (Bool × Rho)) : TT := fun σ H Q => ∃ O ρ c ρ', Good B O σ H ρ ∧ f ρ = some (c, ρ') ∧ ∀ H', Ext B O σ H ρ H' ρ' → Q c H'
structure DP (X : Cx) (B : Base) (m : Md) (e : Expr) (g : Rho → Option D) : Prop where
  pe : PE X e (tP B m g)
structure DPA (X : Cx) (B : Base) (m : Md) (es : List Expr) (g : Rho → Option (List D)) : Prop where
  pa : PA X es (tPA B m g)
structure DPT (X : Cx) (B : Base) (e : Expr) (g : Rho → Option Bool) : Prop where
  pt : PT X e (tPT B g)
structure DE (X : Cx) (B : Base) (e : Expr) (f : Rho → Option (D × Rho)) : Prop where
  pe : PE X e (tE B f)
structure DEA (X : Cx) (B : Base) (es : List Expr) (f : Rho → Option (List D × Rho)) : Prop where
  pa : PA X es (tEA B f)
structure DET (X : Cx) (B : Base) (e : Expr) (f : Rho → Option (Bool × Rho)) : Prop where
  pt : PT X e (tET B f)
theorem Ext.of {B : Base} {O : Addr → Prop} {σ : St} {H H' : Hp} {ρ : Rho} (g : Good B O σ H ρ) (s : Same H H') : Ext B O σ H ρ H' ρ := ⟨.of s, fun _ h => h, g.same s⟩
theorem Ext.trans {B : Base} {O : Addr → Prop} {σ : St} {H H1 H2 : Hp} {ρ ρ1 ρ2 : Rho} (a : Ext B O σ H ρ H1 ρ1) (b : Ext B O σ H1 ρ1 H2 ρ2) : Ext B O σ H ρ H2 ρ2 :=
  ⟨a.keep.trans b.keep fun c h => .inl (a.w c h), fun c h => a.w c (b.w c h), b.good⟩
theorem Ext.samr {B : Base} {O : Addr → Prop} {σ : St} {H H1 H2 : Hp} {ρ ρ1 : Rho} (a : Ext B O σ H ρ H1 ρ1) (s : Same H1 H2) : Ext B O σ H ρ H2 ρ1 := a.trans (.of a.good s)
section
variable {X : Cx}
theorem _root_.L2.PE.imp {e : Expr} {t t' : TE} (h : PE X e t) (i : ∀ σ H Q, t' σ H Q → t σ H Q) : PE X e t' := ⟨fun pins s σ H Q I q => h.run pins s σ H Q I (i σ H Q q)⟩
theorem _root_.L2.PT.imp {e : Expr} {t t' : TT} (h : PT X e t) (i : ∀ σ H Q, t' σ H Q → t σ H Q) : PT X e t' := ⟨fun pins s σ H Q I q => h.run pins s σ H Q I (i σ H Q q)⟩
theorem _root_.L2.PW.imp {e : Expr} {t t' : TT} (h : PW X e t) (i : ∀ σ H Q, t' σ H Q → t σ H Q) : PW X e t' := ⟨fun wh pins s σ H Q I q => h.run wh pins s σ H Q I (i σ H Q q)⟩
theorem _root_.L2.PA.imp {e : List Expr} {t t' : TA} (h : PA X e t) (i : ∀ σ H Q, t' σ H Q → t σ H Q) : PA X e t' := ⟨fun pos pins s σ H Q I q => h.run pos pins s σ H Q I (i σ H Q q)⟩
theorem _root_.L2.PS.imp {e : Stmt} {t t' : TS} (h : PS X e t) (i : ∀ Dn σ H, t' Dn σ H → t Dn σ H) : PS X e t' := ⟨fun pins s σ H Q I q => h.run pins s σ H Q I (i Q σ H q)⟩
theorem _root_.L2.PSs.imp {e : List Stmt} {t t' : TS} (h : PSs X e t) (i : ∀ Dn σ H, t' Dn σ H → t Dn σ H) : PSs X e t' := ⟨fun pins s σ H Q I q => h.run pins s σ H Q I (i Q σ H q)⟩
end
/-! ## data functions -/
@[simp] def asBool : D → Option Bool
  | .bool b => some b
  | _ => none
@[simp] def asInt : D → Option Int
  | .int b => some b
  | _ => none
@[simp] def kD (d : D) : Rho → Option D := fun _ => some d
@[simp] def varD (m : Md) (i : Nat) : Rho → Option D := fun ρ => match ρ[i]? with
  | some (.dat d) => some d
  | some (.own ds) => (match m with | .bas => some (.list ds) | .str => none)
  | _ => none
@[simp] def b1D (g : Rho → Option D) (f : D → Option D) : Rho → Option D := fun ρ => (g ρ).bind f
@[simp] def b2D (ga gb : Rho → Option D) (f : D → D → Option D) : Rho → Option D := fun ρ => (ga ρ).bind fun d => (gb ρ).bind fun e => f d e
@[simp] def immD (d : D) : Option D := if imm d = true then some d else none
@[simp] def toE (g : Rho → Option D) : Rho → Option (D × Rho) := fun ρ => (g ρ).bind fun d => some (d, ρ)
@[simp] def b2E (fa fb : Rho → Option (D × Rho)) (f : D → D → Option D) : Rho → Option (D × Rho) := fun ρ => (fa ρ).bind fun p => (fb p.2).bind fun q => (f p.1 q.1).bind fun z => some (z, q.2)
@[simp] def b1E (fa : Rho → Option (D × Rho)) (f : D → Option D) : Rho → Option (D × Rho) := fun ρ => (fa ρ).bind fun p => (f p.1).bind fun z => some (z, p.2)
/-- an operation by values serves an operation on data -/
def Op2 (r : R2) (f : D → D → Option D) : Prop := ∀ O H d e z x y Q, Otr O H → f d e = some z → Rep O H d x → Rep O H e y → (∀ v H', Same H H' → Rep O H' z v → Q v H') → r x y H Q
def Op1 (r : V → Hp → VK → Prop) (f : D → Option D) : Prop := ∀ O H d z x Q, Otr O H → f d = some z → Rep O H d x → (∀ v H', Same H H' → Rep O H' z v → Q v H') → r x H Q
def OpN (r : List V → Hp → VK → Prop) (f : List D → Option D) : Prop := ∀ O H ds z xs Q, Otr O H → f ds = some z → RepL O H ds xs → (∀ v H', Same H H' → Rep O H' z v → Q v H') → r xs H Q
theorem bind_some {α β : Type} {a : Option α} {f : α → Option β} {b : β} (h : a.bind f = some b) : ∃ x, a = some x ∧ f x = some b := by
  cases a with
  | none => cases h
  | some x => exact ⟨x, rfl, h⟩
section
variable {X : Cx} {B : Base} {m : Md} {a b e : Expr} {ga gb g : Rho → Option D} {fa fb f : Rho → Option (D × Rho)} {pos : Pos}
/-! ## plain expressions -/
theorem dp_int {i : Int} {j} : DP X B m (.Constant (.int i) j pos) (kD (.int i)) := ⟨pe_int.imp fun σ H Q ⟨O, ρ, d, g, e, q⟩ => by
  cases e
  exact q _ _ (Same.refl _) (by simp only [Rep])⟩
theorem dp_bool {b : Bool} {j} : DP X B m (.Constant (.bool b) j pos) (kD (.bool b)) := ⟨pe_bl.imp fun σ H Q ⟨O, ρ, d, g, e, q⟩ => by
  cases e
  exact q _ _ (Same.refl _) (by simp only [Rep])⟩
theorem dp_none {j} : DP X B m (.Constant .none j pos) (kD .none) := ⟨pe_non.imp fun σ H Q ⟨O, ρ, d, g, e, q⟩ => by
  cases e
  exact q _ _ (Same.refl _) (by simp only [Rep])⟩
theorem dp_str {x : Str} {j} : DP X B m (.Constant (.str x) j pos) (kD (.str x)) := ⟨pe_str.imp fun σ H Q ⟨O, ρ, d, g, e, q⟩ => by
  cases e
  exact q _ _ (Same.refl _) (by simp only [Rep])⟩
theorem dp_var (i : Nat) {x : Str} (hN : X.N[i]? = some x := by rfl) (hv : Vis X.env.scope x := by first | exact Or.inl rfl | exact Or.inr (Or.inl rfl) | exact Or.inr (Or.inr rfl)) (hd : (x == ("__debug__" : Str)) = false := by decide)
    (hcd : (x == ("__classdict__" : Str)) = false := by decide) : DP X B m (.Name x pos) (varD m i) := ⟨(pv i hN hv hd hcd).imp fun σ H Q ⟨O, ρ, d, g, e, q⟩ => by
  unfold varD at e
  split at e
  · next d' e1 =>
    cases e
    obtain ⟨v, e2, r⟩ := g.slots _ _ e1
    exact ⟨v, e2, q _ _ (Same.refl _) (r.less (g.mO m))⟩
  · next ds e1 =>
    cases m with
    | str => cases e
    | bas =>
      cases e
      obtain ⟨p, vs, e2, h1, h2, h3, h4, r⟩ := g.slots _ _ e1
      refine ⟨_, e2, q _ _ (Same.refl _) ?_⟩
      simp only [Rep]
      exact ⟨p, vs, rfl, h2, h4, r.less g.osub⟩
  · cases e⟩
theorem dp_glob {x : Str} {i : Int} {u : Value} (hm : X.mg x = some u) (r : RelV (.int i) u) (hg : Gl X x := by rfl) (hd : (x == ("__debug__" : Str)) = false := by decide) : DP X B m (.Name x pos) (kD (.int i)) :=
  ⟨(pe_glob hg hm r hd).imp fun σ H Q ⟨O, ρ, d, g, e, q⟩ => by
    cases e
    exact q _ _ (Same.refl _) (by simp only [Rep])⟩
theorem dp_imm (h : DP X B .bas e g) : DP X B .str e (b1D g immD) := ⟨h.pe.imp fun σ H Q ⟨O, ρ, d, gd, e, q⟩ => by
  obtain ⟨d', e1, e2⟩ := bind_some e
  unfold immD at e2
  split at e2
  · next hi =>
    cases e2
    exact ⟨O, ρ, _, gd, e1, fun v H' s r => q v H' s (r.imm hi)⟩
  · cases e2⟩
theorem dp_bin2 {r : R2} {f : D → D → Option D} {t : TE → TE → TE} (ht : ∀ {ta tb : TE}, PE X a ta → PE X b tb → PE X e (fun σ H Q => ta σ H fun x H1 => tb σ H1 fun y H2 => r x y H2 Q)) (hf : Op2 r f) (ha : DP X B m a ga) (hb : DP X B m b gb) :
    DP X B m e (b2D ga gb f) := ⟨(ht ha.pe hb.pe).imp fun σ H Q ⟨O, ρ, d, gd, e, q⟩ => by
  obtain ⟨d1, e1, e'⟩ := bind_some e
  obtain ⟨d2, e2, e3⟩ := bind_some e'
  refine ⟨O, ρ, d1, gd, e1, fun v H1 s1 r1 => ⟨O, ρ, d2, gd.same s1, e2, fun w H2 s2 r2 => ?_⟩⟩
  exact hf _ H2 d1 d2 d v w Q ((gd.same (s1.trans s2)).otr m) e3 (r1.same s2) r2 fun u H3 s3 r3 => q u H3 ((s1.trans s2).trans s3) r3⟩
theorem dp_op {op : Operator} {r : R2} {f : D → D → Option D} (ho : OpR X (binaryOp op) r) (hf : Op2 r f) (ha : DP X B m a ga) (hb : DP X B m b gb) : DP X B m (.BinOp a op b pos) (b2D ga gb f) :=
  dp_bin2 (t := tOp r) (fun ha hb => pe_op ho ha hb) hf ha hb
theorem dp_cmp {op : CmpOp} {r : R2} {f : D → D → Option D} (ho : OpR X (compareOp op) r) (hf : Op2 r f) (ha : DP X B m a ga) (hb : DP X B m b gb) (hm : behindInMarks op b = false) : DP X B m (.Compare a [op] [b] pos) (b2D ga gb f) :=
  dp_bin2 (t := tOp r) (fun ha hb => pe_cmpR ho ha hb hm) hf ha hb
theorem dp_ix {r : R2} {f : D → D → Option D} (ho : IxR X r) (hf : Op2 r f) (ha : DP X B m a ga) (hb : DP X B m b gb) (hs : PlainIx b := by exact fun _ _ => rfl) : DP X B m (.Subscript a b pos) (b2D ga gb f) :=
  dp_bin2 (t := tOp r) (fun ha hb => pe_ix ho ha hb hs) hf ha hb
theorem dp_un {op : UnaryOp} {r : V → Hp → VK → Prop} {f : D → Option D} (ho : UnR X (unaryOp op) r) (hf : Op1 r f) (ha : DP X B m a ga) : DP X B m (.UnaryOp op a pos) (b1D ga f) := ⟨(pe_un ho ha.pe).imp fun σ H Q ⟨O, ρ, d, gd, e, q⟩ => by
  obtain ⟨d1, e1, e3⟩ := bind_some e
  refine ⟨O, ρ, d1, gd, e1, fun v H1 s1 r1 => ?_⟩
  exact hf _ H1 d1 d v Q ((gd.same s1).otr m) e3 r1 fun u H3 s3 r3 => q u H3 (s1.trans s3) r3⟩
/-! ## expressions that draw -/
theorem de_of (h : DP X B .str e g) : DE X B e (toE g) := ⟨h.pe.imp fun σ H Q ⟨O, ρ, d, ρ', gd, e, q⟩ => by
  obtain ⟨d1, e1, e3⟩ := bind_some e
  cases e3
  exact ⟨O, ρ, _, gd, e1, fun v H1 s1 r1 => q v H1 (.of gd s1) r1⟩⟩
theorem de_bin2 {r : R2} {f : D → D → Option D} (ht : ∀ {ta tb : TE}, PE X a ta → PE X b tb → PE X e (fun σ H Q => ta σ H fun x H1 => tb σ H1 fun y H2 => r x y H2 Q)) (hf : Op2 r f) (ha : DE X B a fa) (hb : DE X B b fb) :
    DE X B e (b2E fa fb f) := ⟨(ht ha.pe hb.pe).imp fun σ H Q ⟨O, ρ, d, ρ', gd, e, q⟩ => by
  obtain ⟨⟨d1, ρ1⟩, e1, e'⟩ := bind_some e
  obtain ⟨⟨d2, ρ2⟩, e2, e''⟩ := bind_some e'
  obtain ⟨z, e3, e4⟩ := bind_some e''
  cases e4
  refine ⟨O, ρ, d1, ρ1, gd, e1, fun v H1 s1 r1 => ⟨O, ρ1, d2, ρ2, s1.good, e2, fun w H2 s2 r2 => ?_⟩⟩
  exact hf _ H2 d1 d2 d v w Q (s2.good.otr .str) e3 (s1.good.rep s2.keep r1) r2 fun u H3 s3 r3 => q u H3 ((s1.trans s2).samr s3) r3⟩
theorem de_op {op : Operator} {r : R2} {f : D → D → Option D} (ho : OpR X (binaryOp op) r) (hf : Op2 r f) (ha : DE X B a fa) (hb : DE X B b fb) : DE X B (.BinOp a op b pos) (b2E fa fb f) :=
  de_bin2 (fun ha hb => pe_op ho ha hb) hf ha hb
theorem de_cmp {op : CmpOp} {r : R2} {f : D → D → Option D} (ho : OpR X (compareOp op) r) (hf : Op2 r f) (ha : DE X B a fa) (hb : DE X B b fb) (hm : behindInMarks op b = false) : DE X B (.Compare a [op] [b] pos) (b2E fa fb f) :=
  de_bin2 (fun ha hb => pe_cmpR ho ha hb hm) hf ha hb
theorem de_ix {r : R2} {f : D → D → Option D} (ho : IxR X r) (hf : Op2 r f) (ha : DE X B a fa) (hb : DE X B b fb) (hs : PlainIx b := by exact fun _ _ => rfl) : DE X B (.Subscript a b pos) (b2E fa fb f) :=
  de_bin2 (fun ha hb => pe_ix ho ha hb hs) hf ha hb
theorem de_un {op : UnaryOp} {r : V → Hp → VK → Prop} {f : D → Option D} (ho : UnR X (unaryOp op) r) (hf : Op1 r f) (ha : DE X B a fa) : DE X B (.UnaryOp op a pos) (b1E fa f) := ⟨(pe_un ho ha.pe).imp fun σ H Q ⟨O, ρ, d, ρ', gd, e, q⟩ => by
  obtain ⟨⟨d1, ρ1⟩, e1, e'⟩ := bind_some e
  obtain ⟨z, e3, e4⟩ := bind_some e'
  cases e4
  refine ⟨O, ρ, d1, ρ1, gd, e1, fun v H1 s1 r1 => ?_⟩
  exact hf _ H1 d1 d v Q (s1.good.otr .str) e3 r1 fun u H3 s3 r3 => q u H3 (s1.samr s3) r3⟩
end
end DL

namespace DL
open PySem PySem.Spec
open PyProof.Rows hiding St
open L2
/-! ## operators on data -/
@[simp] def addD : D → D → Option D
  | .int i, .int j => some (.int (i + j))
  | .tuple xs, .tuple ys => if xs.length + ys.length ≤ 100000 then some (.tuple (xs ++ ys)) else none
  | .list xs, .list ys => if xs.length + ys.length ≤ 100000 then some (.list (xs ++ ys)) else none
  | _, _ => none
@[simp] def subD : D → D → Option D
  | .int i, .int j => some (.int (i - j))
  | _, _ => none
@[simp] def mulD : D → D → Option D
  | .int i, .int j => if (-18446744073709551616 < i ∧ i < 18446744073709551616) ∨ (-18446744073709551616 < j ∧ j < 18446744073709551616) then some (.int (i * j)) else none
  | _, _ => none
@[simp] def fdivD : D → D → Option D
  | .int i, .int j => if 0 < j ∧ j < 18446744073709551616 then some (.int (i / j)) else none
  | _, _ => none
@[simp] def modD : D → D → Option D
  | .int i, .int j => if 0 < j then some (.int (i % j)) else none
  | _, _ => none
@[simp] def powD : D → D → Option D
  | .int i, .int j => if 0 ≤ j ∧ j ≤ 1000000 ∧ i.natAbs < 18446744073709551616 then some (.int (i ^ j.toNat)) else none
  | _, _ => none
@[simp] def cmpD (p : Int → Int → Bool) : D → D → Option D
  | .int i, .int j => some (.bool (p i j))
  | _, _ => none
abbrev ltD := cmpD fun i j => decide (i < j)
abbrev leD := cmpD fun i j => decide (i ≤ j)
abbrev gtD := cmpD fun i j => decide (j < i)
abbrev geD := cmpD fun i j => decide (j ≤ i)
@[simp] def eqD (d e : D) : Option D := if SeqAt.shaped d = true ∧ SeqAt.shaped e = true then some (.bool (PyData.eqv d e)) else none
@[simp] def neD (d e : D) : Option D := if SeqAt.shaped d = true ∧ SeqAt.shaped e = true then some (.bool (!PyData.eqv d e)) else none
@[simp] def isNone : D → Bool
  | .none => true
  | _ => false
@[simp] def isND : D → D → Option D
  | d, .none => some (.bool (isNone d))
  | _, _ => none
@[simp] def notND : D → D → Option D
  | d, .none => some (.bool (!isNone d))
  | _, _ => none
@[simp] def isBD : D → D → Option D
  | .bool a, .bool b => some (.bool (decide (a = b)))
  | _, _ => none
@[simp] def notBD : D → D → Option D
  | .bool a, .bool b => some (.bool (!decide (a = b)))
  | _, _ => none
@[simp] def negD : D → Option D
  | .int i => some (.int (-i))
  | _ => none
@[simp] def ixD : D → D → Option D
  | .tuple xs, .int i => atI xs i
  | .list xs, .int i => atI xs i
  | _, _ => none
theorem line_le {n : Nat} (h : n ≤ 100000) : n ≤ sizeLine := by rw [sizeLine_eq]; omega
theorem rep_upd {O : Addr → Prop} {H : Hp} {ds : List D} {vs : List V} {p : Addr} {o : HO} (hp : H p = none) (r : RepL O H ds vs) : RepL O (upd H p o) ds vs :=
  r.same (.of fun b u e => by rw [upd_ne (ne_of_none e hp)]; exact e)
theorem same_upd {H : Hp} {p : Addr} {o : HO} (hp : H p = none) : Same H (upd H p o) := .of fun b u e => by rw [upd_ne (ne_of_none e hp)]; exact e
theorem rep_tup {O : Addr → Prop} {H : Hp} {ds : List D} {vs : List V} {p : Addr} (hp : H p = none) (r : RepL O H ds vs) : Rep O (upd H p (.tup vs)) (.tuple ds) (.ref p) := by
  simp only [Rep]
  exact ⟨p, vs, rfl, upd_same, rep_upd hp r⟩
theorem rep_lst {O : Addr → Prop} {H : Hp} {ds : List D} {vs : List V} {p : Addr} (t : Otr O H) (hp : H p = none) (r : RepL O H ds vs) : Rep O (upd H p (.lst vs)) (.list ds) (.ref p) := by
  simp only [Rep]
  exact ⟨p, vs, rfl, fun z => t p z hp, upd_same, rep_upd hp r⟩
theorem rep_int {O : Addr → Prop} {H : Hp} {i : Int} {v : V} : Rep O H (.int i) v ↔ v = .int i := by simp only [Rep]
theorem rep_bool {O : Addr → Prop} {H : Hp} {i : Bool} {v : V} : Rep O H (.bool i) v ↔ v = .bl i := by simp only [Rep]
theorem rep_none {O : Addr → Prop} {H : Hp} {v : V} : Rep O H .none v ↔ v = .non := by simp only [Rep]
theorem rep_str {O : Addr → Prop} {H : Hp} {x : Str} {v : V} : Rep O H (.str x) v ↔ v = .str x := by simp only [Rep]
theorem o2_int {C : Int → Int → Prop} {g : Int → Int → V} {f : D → D → Option D} (h : ∀ d e z, f d e = some z → ∃ i j, d = .int i ∧ e = .int j ∧ C i j ∧ ∀ O H, Rep O H z (g i j)) : Op2 (rI C g) f := by
  intro O H d e z x y Q t hf rx ry q
  obtain ⟨i, j, rfl, rfl, c, r⟩ := h d e z hf
  exact ⟨i, j, rep_int.mp rx, rep_int.mp ry, c, q _ H (Same.refl H) (r O H)⟩
theorem o2_int0 {g : Int → Int → V} {f : D → D → Option D} (h : ∀ d e z, f d e = some z → ∃ i j, d = .int i ∧ e = .int j ∧ ∀ O H, Rep O H z (g i j)) : Op2 (rI0 g) f := by
  intro O H d e z x y Q t hf rx ry q
  obtain ⟨i, j, rfl, rfl, r⟩ := h d e z hf
  exact ⟨i, j, rep_int.mp rx, rep_int.mp ry, q _ H (Same.refl H) (r O H)⟩
section
variable {X : Cx}
abbrev rAddA (K : PySem.W.Frag) : R2 := fun x y H Q => rI0 (fun i j => .int (i + j)) x y H Q ∨ (rCatA K x y H Q ∨ rCat x y H Q)
theorem op_addA : OpR X (binaryOp .Add) (rAddA X.K) := op_add.or (op_catA.or op_cat)
theorem o_add {K : PySem.W.Frag} : Op2 (rAddA K) addD := by
  intro O H d e z x y Q t hf rx ry q
  unfold addD at hf
  split at hf
  · cases hf
    exact .inl ⟨_, _, rep_int.mp rx, rep_int.mp ry, q _ H (Same.refl H) (rep_int.mpr rfl)⟩
  · split at hf
    · next hl =>
      cases hf
      simp only [Rep] at rx ry
      obtain ⟨a, vs, rfl, ha, r1⟩ := rx
      obtain ⟨b, ws, rfl, hb, r2⟩ := ry
      refine .inr (.inl ⟨a, b, vs, ws, rfl, rfl, .of ha, .of hb, line_le (by rw [← r1.length, ← r2.length]; exact hl), fun e => ?_, fun _ e => ?_, fun _ _ p hp => ?_⟩)
      · subst e
        have := r1.length
        simp at this; subst this
        exact q _ H (Same.refl H) (by simp only [Rep, List.nil_append]; exact ⟨b, ws, rfl, hb, r2⟩)
      · subst e
        have := r2.length
        simp at this; subst this
        exact q _ H (Same.refl H) (by simp only [Rep, List.append_nil]; exact ⟨a, vs, rfl, ha, r1⟩)
      · exact q _ _ (same_upd hp) (rep_tup hp (r1.append r2))
    · cases hf
  · split at hf
    · next hl =>
      cases hf
      simp only [Rep] at rx ry
      obtain ⟨a, vs, rfl, _, ha, r1⟩ := rx
      obtain ⟨b, ws, rfl, _, hb, r2⟩ := ry
      refine .inr (.inr ⟨a, b, vs, ws, rfl, rfl, ha, hb, line_le (by rw [← r1.length, ← r2.length]; exact hl), fun p hp => ?_⟩)
      exact q _ _ (same_upd hp) (rep_lst t hp (r1.append r2))
    · cases hf
  · cases hf
theorem o_sub : Op2 (rI0 fun i j => .int (i - j)) subD := o2_int0 fun d e z h => by
  unfold subD at h
  split at h
  · cases h; exact ⟨_, _, rfl, rfl, fun _ _ => rep_int.mpr rfl⟩
  · cases h
theorem o_mul : Op2 (rI CMul fun i j => .int (i * j)) mulD := o2_int fun d e z h => by
  unfold mulD at h
  split at h
  · split at h
    · next hc => cases h; exact ⟨_, _, rfl, rfl, hc, fun _ _ => rep_int.mpr rfl⟩
    · cases h
  · cases h
theorem o_fdiv : Op2 (rI CDivW fun i j => .int (i / j)) fdivD := o2_int fun d e z h => by
  unfold fdivD at h
  split at h
  · split at h
    · next hc => cases h; exact ⟨_, _, rfl, rfl, wide_div (b := 64) hc.1 (by omega) (by decide) (by decide), fun _ _ => rep_int.mpr rfl⟩
    · cases h
  · cases h
theorem o_mod : Op2 (rI (fun _ j => 0 < j) fun i j => .int (i % j)) modD := o2_int fun d e z h => by
  unfold modD at h
  split at h
  · split at h
    · next hc => cases h; exact ⟨_, _, rfl, rfl, hc, fun _ _ => rep_int.mpr rfl⟩
    · cases h
  · cases h
theorem o_pow : Op2 (rI CPow fun i j => .int (i ^ j.toNat)) powD := o2_int fun d e z h => by
  unfold powD at h
  split at h
  · split at h
    · next hc => cases h; exact ⟨_, _, rfl, rfl, hc, fun _ _ => rep_int.mpr rfl⟩
    · cases h
  · cases h
theorem o_cmp {p : Int → Int → Bool} : Op2 (rI0 fun i j => .bl (p i j)) (cmpD p) := o2_int0 fun d e z h => by
  unfold cmpD at h
  split at h
  · cases h; exact ⟨_, _, rfl, rfl, fun _ _ => rep_bool.mpr rfl⟩
  · cases h
theorem o_eq {K : PySem.W.Frag} : Op2 (rEqD K) eqD := by
  intro O H d e z x y Q t hf rx ry q
  unfold eqD at hf
  split at hf
  · next hs => cases hf; exact ⟨d, e, rx.dp, ry.dp, hs.1, hs.2, q _ H (Same.refl H) (rep_bool.mpr rfl)⟩
  · cases hf
theorem o_ne {K : PySem.W.Frag} : Op2 (rNeD K) neD := by
  intro O H d e z x y Q t hf rx ry q
  unfold neD at hf
  split at hf
  · next hs => cases hf; exact ⟨d, e, rx.dp, ry.dp, hs.1, hs.2, q _ H (Same.refl H) (rep_bool.mpr rfl)⟩
  · cases hf
theorem rep_isNone {O : Addr → Prop} {H : Hp} {d : D} {v : V} (h : Rep O H d v) : decide (v = .non) = isNone d := by
  cases d with
  | none => rw [rep_none.mp h]; rfl
  | bool b => rw [rep_bool.mp h]; rfl
  | int b => rw [rep_int.mp h]; rfl
  | str b => rw [rep_str.mp h]; rfl
  | list ds => simp only [Rep] at h; obtain ⟨a, vs, rfl, _⟩ := h; rfl
  | tuple ds => simp only [Rep] at h; obtain ⟨a, vs, rfl, _⟩ := h; rfl
  | dict ds => simp only [Rep] at h
theorem o_isN : Op2 (fun x y H Q => y = .non ∧ Q (.bl (decide (x = .non))) H) isND := by
  intro O H d e z x y Q t hf rx ry q
  unfold isND at hf
  split at hf
  · cases hf
    exact ⟨rep_none.mp ry, q _ H (Same.refl H) (rep_bool.mpr (by rw [rep_isNone rx]))⟩
  · cases hf
theorem o_notN : Op2 (fun x y H Q => y = .non ∧ Q (.bl (!decide (x = .non))) H) notND := by
  intro O H d e z x y Q t hf rx ry q
  unfold notND at hf
  split at hf
  · cases hf
    exact ⟨rep_none.mp ry, q _ H (Same.refl H) (rep_bool.mpr (by rw [rep_isNone rx]))⟩
  · cases hf
theorem o_isB : Op2 rIsB isBD := by
  intro O H d e z x y Q t hf rx ry q
  unfold isBD at hf
  split at hf
  · cases hf
    exact ⟨_, _, rep_bool.mp rx, rep_bool.mp ry, q _ H (Same.refl H) (rep_bool.mpr rfl)⟩
  · cases hf
theorem o_notB : Op2 rNotB notBD := by
  intro O H d e z x y Q t hf rx ry q
  unfold notBD at hf
  split at hf
  · cases hf
    exact ⟨_, _, rep_bool.mp rx, rep_bool.mp ry, q _ H (Same.refl H) (rep_bool.mpr rfl)⟩
  · cases hf
theorem o_neg : Op1 (rU fun i => .int (-i)) negD := by
  intro O H d z x Q t hf rx q
  unfold negD at hf
  split at hf
  · cases hf; exact ⟨_, rep_int.mp rx, q _ H (Same.refl H) (rep_int.mpr rfl)⟩
  · cases hf
theorem atI_rep {O : Addr → Prop} {H : Hp} {ds : List D} {vs : List V} {i : Int} {d : D} (r : RepL O H ds vs) (h : atI ds i = some d) : ∃ v, atI vs i = some v ∧ Rep O H d v := by
  unfold atI at h ⊢
  rw [← r.length]
  obtain ⟨j, e1, e2⟩ := bind_some h
  obtain ⟨v, e3, r3⟩ := r.get e2
  exact ⟨v, by rw [e1]; exact e3, r3⟩
theorem o_ix {K : PySem.W.Frag} : Op2 (rIx K) ixD := by
  intro O H d e z x y Q t hf rx ry q
  unfold ixD at hf
  split at hf
  · simp only [Rep] at rx
    obtain ⟨a, vs, rfl, ha, r⟩ := rx
    obtain ⟨v, e1, r1⟩ := atI_rep r hf
    exact .inr (.inl ⟨a, vs, _, v, rfl, rep_int.mp ry, .of ha, e1, q v H (Same.refl H) r1⟩)
  · simp only [Rep] at rx
    obtain ⟨a, vs, rfl, _, ha, r⟩ := rx
    obtain ⟨v, e1, r1⟩ := atI_rep r hf
    exact .inl ⟨a, vs, _, v, rfl, rep_int.mp ry, .of ha, e1, q v H (Same.refl H) r1⟩
  · cases hf
end
/-! ## arguments, displays, calls -/
@[simp] def nilA : Rho → Option (List D) := fun _ => some []
@[simp] def consA (g : Rho → Option D) (gs : Rho → Option (List D)) : Rho → Option (List D) := fun ρ => (g ρ).bind fun d => (gs ρ).bind fun ds => some (d :: ds)
@[simp] def nilEA : Rho → Option (List D × Rho) := fun ρ => some ([], ρ)
@[simp] def consEA (f : Rho → Option (D × Rho)) (fs : Rho → Option (List D × Rho)) : Rho → Option (List D × Rho) := fun ρ => (f ρ).bind fun p => (fs p.2).bind fun q => some (p.1 :: q.1, q.2)
@[simp] def tupD (ds : List D) : Option D := if ds.length ≤ 100000 then some (.tuple ds) else none
@[simp] def lstD (ds : List D) : Option D := if ds.length ≤ 100000 then some (.list ds) else none
@[simp] def nD (gs : Rho → Option (List D)) (F : List D → Option D) : Rho → Option D := fun ρ => (gs ρ).bind F
@[simp] def nE (fs : Rho → Option (List D × Rho)) (F : List D → Option D) : Rho → Option (D × Rho) := fun ρ => (fs ρ).bind fun p => (F p.1).bind fun z => some (z, p.2)
def spP (F : List D → Option D) : Sp := fun vs H Q _ => ∃ O ds d, Otr O H ∧ RepL O H ds vs ∧ F ds = some d ∧ ∀ v H', Same H H' → Rep O H' d v → Q v H'
structure Fn (P : Program) (w : World) (K : PySem.W.Frag) (mg : Str → Option Value) (base : Heap) (k : Nat) (x : Str) (F : List D → Option D) : Prop where
  ex : ∃ f fd ps, FnOk P w K mg base CX0 k f fd ps (spP F) ∧ mg x = some (.ref f) ∧ PySem.W.keepIn K (.ref f) = true ∧ Binds K fd ps []
def OpNT (r : TA → TE) (F : List D → Option D) (B : Base) (m : Md) : Prop := ∀ gs, ∀ σ H Q, tP B m (nD gs F) σ H Q → r (tPA B m gs) σ H Q
section
variable {X : Cx} {B : Base} {m : Md} {e : Expr} {es : List Expr} {g : Rho → Option D} {gs : Rho → Option (List D)} {f : Rho → Option (D × Rho)} {fs : Rho → Option (List D × Rho)} {pos p : Pos}
theorem dpa_nil : DPA X B m [] nilA := ⟨pa_nil.imp fun σ H Q ⟨O, ρ, ds, gd, e, q⟩ => by
  cases e
  exact q [] H (Same.refl H) .nil⟩
theorem dpa_cons (h : DP X B m e g) (hs : DPA X B m es gs) (hst : starEach (e :: es) X.env = (false, eval e X.env) :: starEach es X.env := by rfl) : DPA X B m (e :: es) (consA g gs) := ⟨(pa_cons h.pe hs.pa hst).imp fun σ H Q ⟨O, ρ, ds, gd, e, q⟩ => by
  obtain ⟨d1, e1, e'⟩ := bind_some e
  obtain ⟨d2, e2, e3⟩ := bind_some e'
  cases e3
  exact ⟨O, ρ, d1, gd, e1, fun v H1 s1 r1 => ⟨O, ρ, d2, gd.same s1, e2, fun w H2 s2 r2 => q _ H2 (s1.trans s2) (.cons (r1.same s2) r2)⟩⟩⟩
theorem dea_nil : DEA X B [] nilEA := ⟨pa_nil.imp fun σ H Q ⟨O, ρ, ds, ρ', gd, e, q⟩ => by
  cases e
  exact q [] H (.of gd (Same.refl H)) .nil⟩
theorem dea_cons (h : DE X B e f) (hs : DEA X B es fs) (hst : starEach (e :: es) X.env = (false, eval e X.env) :: starEach es X.env := by rfl) : DEA X B (e :: es) (consEA f fs) := ⟨(pa_cons h.pe hs.pa hst).imp fun σ H Q ⟨O, ρ, ds, ρ', gd, e, q⟩ => by
  obtain ⟨⟨d1, ρ1⟩, e1, e'⟩ := bind_some e
  obtain ⟨⟨d2, ρ2⟩, e2, e3⟩ := bind_some e'
  cases e3
  exact ⟨O, ρ, d1, ρ1, gd, e1, fun v H1 s1 r1 => ⟨O, ρ1, d2, ρ2, s1.good, e2, fun w H2 s2 r2 => q _ H2 (s1.trans s2) (.cons (s1.good.rep s2.keep r1) r2)⟩⟩⟩
theorem dp_n {t : TA → TE} (ht : ∀ {ta : TA}, PA X es ta → PE X e (t ta)) (F : List D → Option D) (hF : ∀ σ H Q O ρ ds z, Good B O σ H ρ → gs ρ = some ds → F ds = some z → (∀ v H', Same H H' → Rep (m.O B O) H' z v → Q v H') → t (tPA B m gs) σ H Q) (ha : DPA X B m es gs) : DP X B m e (nD gs F) :=
  ⟨(ht ha.pa).imp fun σ H Q ⟨O, ρ, d, gd, e, q⟩ => by
    obtain ⟨ds, e1, e2⟩ := bind_some e
    exact hF σ H Q O ρ ds d gd e1 e2 q⟩
theorem dp_tup {k} (ha : DPA X B m es gs) : DP X B m (.Tuple es k pos) (nD gs tupD) := dp_n (t := tTup) (fun h => pe_tup h) tupD (fun σ H Q O ρ ds z gd e1 e2 q => by
  refine ⟨O, ρ, ds, gd, e1, fun vs H1 s1 r1 => ?_⟩
  unfold tupD at e2
  split at e2
  · next hl =>
    cases e2
    exact ⟨line_le (by rw [← r1.length]; exact hl), fun p hp => q _ _ (s1.trans (same_upd hp)) (rep_tup hp r1)⟩
  · cases e2) ha
theorem dp_lst (ha : DPA X B m es gs) : DP X B m (.List es pos) (nD gs lstD) := dp_n (t := tLst) (fun h => pe_lst h) lstD (fun σ H Q O ρ ds z gd e1 e2 q => by
  refine ⟨O, ρ, ds, gd, e1, fun vs H1 s1 r1 => ?_⟩
  unfold lstD at e2
  split at e2
  · next hl =>
    cases e2
    exact ⟨line_le (by rw [← r1.length]; exact hl), fun p hp => q _ _ (s1.trans (same_upd hp)) (rep_lst ((gd.same s1).otr m) hp r1)⟩
  · cases e2) ha
theorem de_n {t : TA → TE} (ht : ∀ {ta : TA}, PA X es ta → PE X e (t ta)) (F : List D → Option D) (hF : ∀ σ H Q O ρ ρ' ds z, Good B O σ H ρ → fs ρ = some (ds, ρ') → F ds = some z → (∀ v H', Ext B O σ H ρ H' ρ' → Rep O H' z v → Q v H') → t (tEA B fs) σ H Q) (ha : DEA X B es fs) : DE X B e (nE fs F) :=
  ⟨(ht ha.pa).imp fun σ H Q ⟨O, ρ, d, ρ', gd, e, q⟩ => by
    obtain ⟨⟨ds, ρ1⟩, e1, e2⟩ := bind_some e
    obtain ⟨z, e3, e4⟩ := bind_some e2
    cases e4
    exact hF σ H Q O ρ _ ds d gd e1 e3 q⟩
theorem de_tup {k} (ha : DEA X B es fs) : DE X B (.Tuple es k pos) (nE fs tupD) := de_n (t := tTup) (fun h => pe_tup h) tupD (fun σ H Q O ρ ρ' ds z gd e1 e2 q => by
  refine ⟨O, ρ, ds, ρ', gd, e1, fun vs H1 s1 r1 => ?_⟩
  unfold tupD at e2
  split at e2
  · next hl =>
    cases e2
    exact ⟨line_le (by rw [← r1.length]; exact hl), fun p hp => q _ _ (s1.samr (same_upd hp)) (rep_tup hp r1)⟩
  · cases e2) ha
theorem de_lst (ha : DEA X B es fs) : DE X B (.List es pos) (nE fs lstD) := de_n (t := tLst) (fun h => pe_lst h) lstD (fun σ H Q O ρ ρ' ds z gd e1 e2 q => by
  refine ⟨O, ρ, ds, ρ', gd, e1, fun vs H1 s1 r1 => ?_⟩
  unfold lstD at e2
  split at e2
  · next hl =>
    cases e2
    exact ⟨line_le (by rw [← r1.length]; exact hl), fun p hp => q _ _ (s1.samr (same_upd hp)) (rep_lst (s1.good.otr .str) hp r1)⟩
  · cases e2) ha
/-! ### built-in functions and types -/
theorem dp_b {x : Str} {id : String} {r : List V → Hp → VK → Prop} {F : List D → Option D} (hc : CallR X (.builtin id) r) (hF : OpN r F) (hm : X.mg x = none) (hv : bootBuiltins x = some (.builtin id)) (ha : DPA X B m (e :: es) gs) (hg : Gl X x := by rfl) (hn : x ≠ "__name__" := by decide) (hdb : (x == ("__debug__" : Str)) = false := by decide)
    (he : starEach (e :: es) X.env = (false, eval e X.env) :: starEach es X.env := by rfl) (hpl : (backTo pos (starEach es X.env)).any (·.1) = false := by rfl) : DP X B m (.Call (.Name x p) (e :: es) [] pos) (nD gs F) :=
  dp_n (t := tCB r) (fun h => pe_callB hc hg hm hv h hn hdb he hpl) F (fun σ H Q O ρ ds z gd e1 e2 q => ⟨O, ρ, ds, gd, e1, fun vs H1 s1 r1 => hF _ H1 ds z vs Q ((gd.same s1).otr m) e2 r1 fun v H2 s2 r2 => q v H2 (s1.trans s2) r2⟩) ha
theorem de_b {x : Str} {id : String} {r : List V → Hp → VK → Prop} {F : List D → Option D} (hc : CallR X (.builtin id) r) (hF : OpN r F) (hm : X.mg x = none) (hv : bootBuiltins x = some (.builtin id)) (ha : DEA X B (e :: es) fs) (hg : Gl X x := by rfl) (hn : x ≠ "__name__" := by decide) (hdb : (x == ("__debug__" : Str)) = false := by decide)
    (he : starEach (e :: es) X.env = (false, eval e X.env) :: starEach es X.env := by rfl) (hpl : (backTo pos (starEach es X.env)).any (·.1) = false := by rfl) : DE X B (.Call (.Name x p) (e :: es) [] pos) (nE fs F) :=
  de_n (t := tCB r) (fun h => pe_callB hc hg hm hv h hn hdb he hpl) F (fun σ H Q O ρ ρ' ds z gd e1 e2 q => ⟨O, ρ, ds, ρ', gd, e1, fun vs H1 s1 r1 => hF _ H1 ds z vs Q (s1.good.otr .str) e2 r1 fun v H2 s2 r2 => q v H2 (s1.samr s2) r2⟩) ha
theorem dp_ty {x : Str} {T : String} {r : List V → Hp → VK → Prop} {F : List D → Option D} (hc : CallR X (.type T) r) (hF : OpN r F) (hm : X.mg x = none) (hv : bootBuiltins x = some (.type T)) (ha : DPA X B m (e :: es) gs) (hg : Gl X x := by rfl) (hn : x ≠ "__name__" := by decide) (hdb : (x == ("__debug__" : Str)) = false := by decide)
    (he : starEach (e :: es) X.env = (false, eval e X.env) :: starEach es X.env := by rfl) (hpl : (backTo pos (starEach es X.env)).any (·.1) = false := by rfl) : DP X B m (.Call (.Name x p) (e :: es) [] pos) (nD gs F) :=
  dp_n (t := tCB r) (fun h => pe_callTy hc hg hm hv h hn hdb he hpl) F (fun σ H Q O ρ ds z gd e1 e2 q => ⟨O, ρ, ds, gd, e1, fun vs H1 s1 r1 => hF _ H1 ds z vs Q ((gd.same s1).otr m) e2 r1 fun v H2 s2 r2 => q v H2 (s1.trans s2) r2⟩) ha
theorem de_ty {x : Str} {T : String} {r : List V → Hp → VK → Prop} {F : List D → Option D} (hc : CallR X (.type T) r) (hF : OpN r F) (hm : X.mg x = none) (hv : bootBuiltins x = some (.type T)) (ha : DEA X B (e :: es) fs) (hg : Gl X x := by rfl) (hn : x ≠ "__name__" := by decide) (hdb : (x == ("__debug__" : Str)) = false := by decide)
    (he : starEach (e :: es) X.env = (false, eval e X.env) :: starEach es X.env := by rfl) (hpl : (backTo pos (starEach es X.env)).any (·.1) = false := by rfl) : DE X B (.Call (.Name x p) (e :: es) [] pos) (nE fs F) :=
  de_n (t := tCB r) (fun h => pe_callTy hc hg hm hv h hn hdb he hpl) F (fun σ H Q O ρ ρ' ds z gd e1 e2 q => ⟨O, ρ, ds, ρ', gd, e1, fun vs H1 s1 r1 => hF _ H1 ds z vs Q (s1.good.otr .str) e2 r1 fun v H2 s2 r2 => q v H2 (s1.samr s2) r2⟩) ha
/-! ### defs of the text -/
theorem dp_call {x : Str} {k j : Nat} {F : List D → Option D} (hF : Fn X.prog X.w X.K X.mg X.base k x F) (hr : Room j X.A) (hk : k ≤ j) (ha : DPA X B m (e :: es) gs) (hg : Gl X x := by rfl) (hdb : (x == ("__debug__" : Str)) = false := by decide)
    (he : starEach (e :: es) X.env = (false, eval e X.env) :: starEach es X.env := by rfl) (hpl : (backTo pos (starEach es X.env)).any (·.1) = false := by rfl) : DP X B m (.Call (.Name x p) (e :: es) [] pos) (nD gs F) := by
  obtain ⟨fa, fd, ps, G, hm, kp, b⟩ := hF.ex
  refine dp_n (t := tCall (spP F) [] E0) (fun h => pe_call G (hr.mono hk) hg hm kp b .nil pass0 h hdb he hpl) F (fun σ H Q O ρ ds z gd e1 e2 q => ⟨O, ρ, ds, gd, e1, fun vs H1 s1 r1 => ?_⟩) ha
  show spP F (vs ++ []) H1 Q E0
  rw [List.append_nil]
  exact ⟨_, ds, z, (gd.same s1).otr m, r1, e2, fun v H2 s2 r2 => q v H2 (s1.trans s2) r2⟩
theorem de_call {x : Str} {k j : Nat} {F : List D → Option D} (hF : Fn X.prog X.w X.K X.mg X.base k x F) (hr : Room j X.A) (hk : k ≤ j) (ha : DEA X B (e :: es) fs) (hg : Gl X x := by rfl) (hdb : (x == ("__debug__" : Str)) = false := by decide)
    (he : starEach (e :: es) X.env = (false, eval e X.env) :: starEach es X.env := by rfl) (hpl : (backTo pos (starEach es X.env)).any (·.1) = false := by rfl) : DE X B (.Call (.Name x p) (e :: es) [] pos) (nE fs F) := by
  obtain ⟨fa, fd, ps, G, hm, kp, b⟩ := hF.ex
  refine de_n (t := tCall (spP F) [] E0) (fun h => pe_call G (hr.mono hk) hg hm kp b .nil pass0 h hdb he hpl) F (fun σ H Q O ρ ρ' ds z gd e1 e2 q => ⟨O, ρ, ds, ρ', gd, e1, fun vs H1 s1 r1 => ?_⟩) ha
  show spP F (vs ++ []) H1 Q E0
  rw [List.append_nil]
  exact ⟨_, ds, z, s1.good.otr .str, r1, e2, fun v H2 s2 r2 => q v H2 (s1.samr s2) r2⟩
end
end DL

namespace DL
open PySem PySem.Spec
open PyProof.Rows hiding St
open L2
/-! ## tests -/
structure DPW (X : Cx) (B : Base) (e : Expr) (g : Rho → Option Bool) : Prop where
  pw : PW X e (tPT B g)
structure DEW (X : Cx) (B : Base) (e : Expr) (f : Rho → Option (Bool × Rho)) : Prop where
  pw : PW X e (tET B f)
@[simp] def tstD (g : Rho → Option D) : Rho → Option Bool := fun ρ => (g ρ).bind asBool
@[simp] def andT (g h : Rho → Option Bool) : Rho → Option Bool := fun ρ => (g ρ).bind fun c => if c = true then h ρ else some false
@[simp] def orT (g h : Rho → Option Bool) : Rho → Option Bool := fun ρ => (g ρ).bind fun c => if c = true then some true else h ρ
@[simp] def notT (g : Rho → Option Bool) : Rho → Option Bool := fun ρ => (g ρ).bind fun c => some (!c)
@[simp] def ifD (c : Rho → Option Bool) (g h : Rho → Option D) : Rho → Option D := fun ρ => (c ρ).bind fun c => if c = true then g ρ else h ρ
@[simp] def andV (g h : Rho → Option D) : Rho → Option D := fun ρ => (g ρ).bind fun d => (asBool d).bind fun c => if c = true then h ρ else some (.bool false)
@[simp] def orV (g h : Rho → Option D) : Rho → Option D := fun ρ => (g ρ).bind fun d => (asBool d).bind fun c => if c = true then some (.bool true) else h ρ
@[simp] def notD : D → Option D
  | .bool b => some (.bool (!b))
  | _ => none
@[simp] def chD (f1 f2 : D → D → Option D) (ga gb gc : Rho → Option D) : Rho → Option D := fun ρ => (ga ρ).bind fun a => (gb ρ).bind fun b => (f1 a b).bind fun r => (asBool r).bind fun c => if c = true then (gc ρ).bind fun d => f2 b d else some (.bool false)
@[simp] def tstE (f : Rho → Option (D × Rho)) : Rho → Option (Bool × Rho) := fun ρ => (f ρ).bind fun p => (asBool p.1).bind fun c => some (c, p.2)
@[simp] def toT (g : Rho → Option Bool) : Rho → Option (Bool × Rho) := fun ρ => (g ρ).bind fun c => some (c, ρ)
@[simp] def andE (g h : Rho → Option (Bool × Rho)) : Rho → Option (Bool × Rho) := fun ρ => (g ρ).bind fun p => if p.1 = true then h p.2 else some (false, p.2)
@[simp] def orE (g h : Rho → Option (Bool × Rho)) : Rho → Option (Bool × Rho) := fun ρ => (g ρ).bind fun p => if p.1 = true then some (true, p.2) else h p.2
@[simp] def notE (g : Rho → Option (Bool × Rho)) : Rho → Option (Bool × Rho) := fun ρ => (g ρ).bind fun p => some (!p.1, p.2)
@[simp] def ifE (c : Rho → Option (Bool × Rho)) (g h : Rho → Option (D × Rho)) : Rho → Option (D × Rho) := fun ρ => (c ρ).bind fun p => if p.1 = true then g p.2 else h p.2
theorem asBool_some {d : D} {c : Bool} (h : asBool d = some c) : d = .bool c := by
  unfold asBool at h
  split at h
  · cases h; rfl
  · cases h
section
variable {X : Cx} {B : Base} {m : Md} {a b c e : Expr} {es : List Expr} {ga gb gc g : Rho → Option D} {fa fb f : Rho → Option (D × Rho)} {ta tb tt : Rho → Option Bool} {ua ub uu : Rho → Option (Bool × Rho)} {pos p : Pos}
theorem dt_val (h : DP X B m e g) (he : ∀ whole, isTrue e X.env whole = (do let v ← whole; standAt e.pos; holding [v] (truthy v)) := by intro _; rfl) : DPT X B e (tstD g) := ⟨(pt_val h.pe he).imp fun σ H Q ⟨O, ρ, k, gd, e, q⟩ => by
  obtain ⟨d, e1, e2⟩ := bind_some e
  cases asBool_some e2
  exact ⟨O, ρ, _, gd, e1, fun v H1 s1 r1 => ⟨k, rep_bool.mp r1, q H1 s1⟩⟩⟩
theorem dt_bin2 {r : R2} {F : D → D → Option D} (ht : ∀ {ta tb : TE}, PE X a ta → PE X b tb → PT X e (tTest fun σ H Q => ta σ H fun x H1 => tb σ H1 fun y H2 => r x y H2 Q)) (hf : Op2 r F) (ha : DP X B m a ga) (hb : DP X B m b gb) : DPT X B e (tstD (b2D ga gb F)) :=
  ⟨(ht ha.pe hb.pe).imp fun σ H Q ⟨O, ρ, k, gd, e, q⟩ => by
    obtain ⟨d, e0, ek⟩ := bind_some e
    obtain ⟨d1, e1, e'⟩ := bind_some e0
    obtain ⟨d2, e2, e3⟩ := bind_some e'
    cases asBool_some ek
    refine ⟨O, ρ, d1, gd, e1, fun v H1 s1 r1 => ⟨O, ρ, d2, gd.same s1, e2, fun w H2 s2 r2 => ?_⟩⟩
    exact hf _ H2 d1 d2 _ v w _ ((gd.same (s1.trans s2)).otr m) e3 (r1.same s2) r2 fun u H3 s3 r3 => ⟨k, rep_bool.mp r3, q H3 ((s1.trans s2).trans s3)⟩⟩
theorem dt_cmp {op : CmpOp} {r : R2} {F : D → D → Option D} (ho : OpR X (compareOp op) r) (hf : Op2 r F) (ha : DP X B m a ga) (hb : DP X B m b gb) (hm : behindInMarks op b = false) : DPT X B (.Compare a [op] [b] pos) (tstD (b2D ga gb F)) :=
  dt_bin2 (fun ha hb => pt_cmpR ho ha hb hm) hf ha hb
theorem ch_imp {r r' : R2} {F F' : D → D → Option D} (hf : Op2 r F) (hf' : Op2 r' F') {σ : St} {H : Hp} {Q : VK} (h : tP B m (chD F F' ga gb gc) σ H Q) : tChain r r' (tP B m ga) (tP B m gb) (tP B m gc) σ H Q := by
  obtain ⟨O, ρ, z, gd, e, q⟩ := h
  obtain ⟨d1, e1, e'⟩ := bind_some e
  obtain ⟨d2, e2, e3⟩ := bind_some e'
  obtain ⟨d3, e3, e4⟩ := bind_some e3
  obtain ⟨k, e5, e6⟩ := bind_some e4
  cases asBool_some e5
  refine ⟨O, ρ, d1, gd, e1, fun v H1 s1 r1 => ⟨O, ρ, d2, gd.same s1, e2, fun w H2 s2 r2 => ?_⟩⟩
  refine hf _ H2 d1 d2 _ v w _ ((gd.same (s1.trans s2)).otr m) e3 (r1.same s2) r2 fun u H3 s3 r3 => ⟨k, rep_bool.mp r3, ?_⟩
  cases k with
  | false =>
    cases e6
    exact q _ H3 ((s1.trans s2).trans s3) (rep_bool.mpr rfl)
  | true =>
    obtain ⟨d4, e7, e8⟩ := bind_some e6
    refine ⟨O, ρ, d4, gd.same ((s1.trans s2).trans s3), e7, fun y H4 s4 r4 => ?_⟩
    exact hf' _ H4 d2 d4 z w y Q ((gd.same (((s1.trans s2).trans s3).trans s4)).otr m) e8 ((r2.same s3).same s4) r4 fun u H5 s5 r5 => q u H5 ((((s1.trans s2).trans s3).trans s4).trans s5) r5
theorem dp_chain {op op' : CmpOp} {r r' : R2} {F F' : D → D → Option D} (ho : OpR X (compareOp op) r) (hf : Op2 r F) (ho' : OpR X (compareOp op') r') (hf' : Op2 r' F') (ha : DP X B m a ga) (hb : DP X B m b gb) (hc : DP X B m c gc)
    (h1 : lastMarks [op, op'] [b, c] = false := by with_unfolding_all rfl) : DP X B m (.Compare a [op, op'] [b, c] pos) (chD F F' ga gb gc) :=
  ⟨(pe_chain ho ho' ha.pe hb.pe hc.pe h1).imp fun σ H Q h => ch_imp hf hf' h⟩
theorem dt_chain {op op' : CmpOp} {r r' : R2} {F F' : D → D → Option D} (ho : OpR X (compareOp op) r) (hf : Op2 r F) (ho' : OpR X (compareOp op') r') (hf' : Op2 r' F') (ha : DP X B m a ga) (hb : DP X B m b gb) (hc : DP X B m c gc)
    (h1 : lastMarks [op, op'] [b, c] = false := by with_unfolding_all rfl) : DPT X B (.Compare a [op, op'] [b, c] pos) (tstD (chD F F' ga gb gc)) :=
  ⟨(pt_chain ho ho' ha.pe hb.pe hc.pe h1).imp fun σ H Q ⟨O, ρ, k, gd, e, q⟩ => by
    obtain ⟨d, e0, ek⟩ := bind_some e
    cases asBool_some ek
    exact ch_imp hf hf' ⟨O, ρ, _, gd, e0, fun v H1 s1 r1 => ⟨k, rep_bool.mp r1, q H1 s1⟩⟩⟩
theorem dw_and1 (h : DPT X B a ta) : DPW X B (.BoolOp .And [a] pos) ta := ⟨pw_and1 h.pt⟩
theorem dw_or1 (h : DPT X B a ta) : DPW X B (.BoolOp .Or [a] pos) ta := ⟨pw_or1 h.pt⟩
theorem dw_and (h : DPT X B a ta) (h2 : DPW X B (.BoolOp .And (b :: es) pos) tb) : DPW X B (.BoolOp .And (a :: b :: es) pos) (andT ta tb) := ⟨(pw_and h.pt h2.pw).imp fun σ H Q ⟨O, ρ, k, gd, e, q⟩ => by
  obtain ⟨c, e1, e2⟩ := bind_some e
  refine ⟨O, ρ, c, gd, e1, fun H1 s1 => ?_⟩
  cases c with
  | false => cases e2; exact q H1 s1
  | true => exact ⟨O, ρ, k, gd.same s1, e2, fun H2 s2 => q H2 (s1.trans s2)⟩⟩
theorem dw_or (h : DPT X B a ta) (h2 : DPW X B (.BoolOp .Or (b :: es) pos) tb) : DPW X B (.BoolOp .Or (a :: b :: es) pos) (orT ta tb) := ⟨(pw_or h.pt h2.pw).imp fun σ H Q ⟨O, ρ, k, gd, e, q⟩ => by
  obtain ⟨c, e1, e2⟩ := bind_some e
  refine ⟨O, ρ, c, gd, e1, fun H1 s1 => ?_⟩
  cases c with
  | true => cases e2; exact q H1 s1
  | false => exact ⟨O, ρ, k, gd.same s1, e2, fun H2 s2 => q H2 (s1.trans s2)⟩⟩
theorem dt_w (h : DPW X B e tt) : DPT X B e tt := ⟨h.pw.pt⟩
theorem dt_not (h : DPT X B a ta) : DPT X B (.UnaryOp .Not a pos) (notT ta) := ⟨(pt_not h.pt).imp fun σ H Q ⟨O, ρ, k, gd, e, q⟩ => by
  obtain ⟨c, e1, e2⟩ := bind_some e
  cases e2
  exact ⟨O, ρ, c, gd, e1, fun H1 s1 => q H1 s1⟩⟩
theorem dp_if (hc : DPT X B c tt) (ha : DP X B m a ga) (hb : DP X B m b gb) : DP X B m (.IfExp c a b pos) (ifD tt ga gb) := ⟨(pe_ifExp hc.pt ha.pe hb.pe).imp fun σ H Q ⟨O, ρ, d, gd, e, q⟩ => by
  obtain ⟨k, e1, e2⟩ := bind_some e
  refine ⟨O, ρ, k, gd, e1, fun H1 s1 => ?_⟩
  cases k with
  | true => exact ⟨O, ρ, d, gd.same s1, e2, fun v H2 s2 r => q v H2 (s1.trans s2) r⟩
  | false => exact ⟨O, ρ, d, gd.same s1, e2, fun v H2 s2 r => q v H2 (s1.trans s2) r⟩⟩
theorem dp_one {op} (h : DP X B m a ga) : DP X B m (.BoolOp op [a] pos) ga := ⟨pe_one h.pe⟩
theorem dp_and (h : DP X B m a ga) (h2 : DP X B m (.BoolOp .And (b :: es) pos) gb) : DP X B m (.BoolOp .And (a :: b :: es) pos) (andV ga gb) := ⟨(pe_and h.pe h2.pe).imp fun σ H Q ⟨O, ρ, d, gd, e, q⟩ => by
  obtain ⟨d1, e1, e2⟩ := bind_some e
  obtain ⟨c, e3, e4⟩ := bind_some e2
  cases asBool_some e3
  refine ⟨O, ρ, _, gd, e1, fun v H1 s1 r1 => ⟨c, rep_bool.mp r1, ?_⟩⟩
  cases c with
  | false => cases e4; exact q _ H1 s1 (rep_bool.mpr rfl)
  | true => exact ⟨O, ρ, d, gd.same s1, e4, fun v H2 s2 r => q v H2 (s1.trans s2) r⟩⟩
theorem dp_or (h : DP X B m a ga) (h2 : DP X B m (.BoolOp .Or (b :: es) pos) gb) : DP X B m (.BoolOp .Or (a :: b :: es) pos) (orV ga gb) := ⟨(pe_or h.pe h2.pe).imp fun σ H Q ⟨O, ρ, d, gd, e, q⟩ => by
  obtain ⟨d1, e1, e2⟩ := bind_some e
  obtain ⟨c, e3, e4⟩ := bind_some e2
  cases asBool_some e3
  refine ⟨O, ρ, _, gd, e1, fun v H1 s1 r1 => ⟨c, rep_bool.mp r1, ?_⟩⟩
  cases c with
  | true => cases e4; exact q _ H1 s1 (rep_bool.mpr rfl)
  | false => exact ⟨O, ρ, d, gd.same s1, e4, fun v H2 s2 r => q v H2 (s1.trans s2) r⟩⟩
theorem dp_not (h : DP X B m a ga) : DP X B m (.UnaryOp .Not a pos) (b1D ga notD) := ⟨(pe_not h.pe).imp fun σ H Q ⟨O, ρ, d, gd, e, q⟩ => by
  obtain ⟨d1, e1, e2⟩ := bind_some e
  unfold notD at e2
  split at e2
  · cases e2
    exact ⟨O, ρ, _, gd, e1, fun v H1 s1 r1 => ⟨_, rep_bool.mp r1, q _ H1 s1 (rep_bool.mpr rfl)⟩⟩
  · cases e2⟩
/-! ### tests that draw -/
theorem det_of (h : DPT X B e tt) : DET X B e (toT tt) := ⟨h.pt.imp fun σ H Q ⟨O, ρ, k, ρ', gd, e, q⟩ => by
  obtain ⟨c, e1, e2⟩ := bind_some e
  cases e2
  exact ⟨O, ρ, _, gd, e1, fun H1 s1 => q H1 (.of gd s1)⟩⟩
theorem det_val (h : DE X B e f) (he : ∀ whole, isTrue e X.env whole = (do let v ← whole; standAt e.pos; holding [v] (truthy v)) := by intro _; rfl) : DET X B e (tstE f) := ⟨(pt_val h.pe he).imp fun σ H Q ⟨O, ρ, k, ρ', gd, e, q⟩ => by
  obtain ⟨⟨d, ρ1⟩, e1, e2⟩ := bind_some e
  obtain ⟨c, e3, e4⟩ := bind_some e2
  cases asBool_some e3
  cases e4
  exact ⟨O, ρ, _, _, gd, e1, fun v H1 s1 r1 => ⟨k, rep_bool.mp r1, q H1 s1⟩⟩⟩
theorem det_cmp {op : CmpOp} {r : R2} {F : D → D → Option D} (ho : OpR X (compareOp op) r) (hf : Op2 r F) (ha : DE X B a fa) (hb : DE X B b fb) (hm : behindInMarks op b = false) : DET X B (.Compare a [op] [b] pos) (tstE (b2E fa fb F)) :=
  ⟨(pt_cmpR ho ha.pe hb.pe hm).imp fun σ H Q ⟨O, ρ, k, ρ', gd, e, q⟩ => by
    obtain ⟨⟨d, ρ0⟩, e0, ek⟩ := bind_some e
    obtain ⟨⟨d1, ρ1⟩, e1, e'⟩ := bind_some e0
    obtain ⟨⟨d2, ρ2⟩, e2, e''⟩ := bind_some e'
    obtain ⟨z, e3, e4⟩ := bind_some e''
    cases e4
    obtain ⟨c, e5, e6⟩ := bind_some ek
    cases asBool_some e5
    cases e6
    refine ⟨O, ρ, d1, ρ1, gd, e1, fun v H1 s1 r1 => ⟨O, ρ1, d2, _, s1.good, e2, fun w H2 s2 r2 => ?_⟩⟩
    exact hf _ H2 d1 d2 _ v w _ (s2.good.otr .str) e3 (s1.good.rep s2.keep r1) r2 fun u H3 s3 r3 => ⟨k, rep_bool.mp r3, q H3 ((s1.trans s2).samr s3)⟩⟩
theorem dew_and1 (h : DET X B a ua) : DEW X B (.BoolOp .And [a] pos) ua := ⟨pw_and1 h.pt⟩
theorem dew_or1 (h : DET X B a ua) : DEW X B (.BoolOp .Or [a] pos) ua := ⟨pw_or1 h.pt⟩
theorem dew_and (h : DET X B a ua) (h2 : DEW X B (.BoolOp .And (b :: es) pos) ub) : DEW X B (.BoolOp .And (a :: b :: es) pos) (andE ua ub) := ⟨(pw_and h.pt h2.pw).imp fun σ H Q ⟨O, ρ, k, ρ', gd, e, q⟩ => by
  obtain ⟨⟨c, ρ1⟩, e1, e2⟩ := bind_some e
  refine ⟨O, ρ, c, ρ1, gd, e1, fun H1 s1 => ?_⟩
  cases c with
  | false => cases e2; exact q H1 s1
  | true => exact ⟨O, ρ1, k, ρ', s1.good, e2, fun H2 s2 => q H2 (s1.trans s2)⟩⟩
theorem dew_or (h : DET X B a ua) (h2 : DEW X B (.BoolOp .Or (b :: es) pos) ub) : DEW X B (.BoolOp .Or (a :: b :: es) pos) (orE ua ub) := ⟨(pw_or h.pt h2.pw).imp fun σ H Q ⟨O, ρ, k, ρ', gd, e, q⟩ => by
  obtain ⟨⟨c, ρ1⟩, e1, e2⟩ := bind_some e
  refine ⟨O, ρ, c, ρ1, gd, e1, fun H1 s1 => ?_⟩
  cases c with
  | true => cases e2; exact q H1 s1
  | false => exact ⟨O, ρ1, k, ρ', s1.good, e2, fun H2 s2 => q H2 (s1.trans s2)⟩⟩
theorem det_w (h : DEW X B e uu) : DET X B e uu := ⟨h.pw.pt⟩
theorem det_not (h : DET X B a ua) : DET X B (.UnaryOp .Not a pos) (notE ua) := ⟨(pt_not h.pt).imp fun σ H Q ⟨O, ρ, k, ρ', gd, e, q⟩ => by
  obtain ⟨⟨c, ρ1⟩, e1, e2⟩ := bind_some e
  cases e2
  exact ⟨O, ρ, c, _, gd, e1, fun H1 s1 => q H1 s1⟩⟩
theorem de_if (hc : DET X B c uu) (ha : DE X B a fa) (hb : DE X B b fb) : DE X B (.IfExp c a b pos) (ifE uu fa fb) := ⟨(pe_ifExp hc.pt ha.pe hb.pe).imp fun σ H Q ⟨O, ρ, d, ρ', gd, e, q⟩ => by
  obtain ⟨⟨k, ρ1⟩, e1, e2⟩ := bind_some e
  refine ⟨O, ρ, k, ρ1, gd, e1, fun H1 s1 => ?_⟩
  cases k with
  | true => exact ⟨O, ρ1, d, ρ', s1.good, e2, fun v H2 s2 r => q v H2 (s1.trans s2) r⟩
  | false => exact ⟨O, ρ1, d, ρ', s1.good, e2, fun v H2 s2 r => q v H2 (s1.trans s2) r⟩⟩
end
end DL

namespace DL
open PySem PySem.Spec
open PyProof.Rows hiding St
open L2
/-! ## statements -/
inductive Out where
  | nx (ρ : Rho) | rt (d : D) (ρ : Rho)
structure Stp (O : Addr → Prop) (σ : St) (H : Hp) (ρ : Rho) (O' : Addr → Prop) (σ' : St) (H' : Hp) (ρ' : Rho) : Prop where
  keep : Keep (Wof σ ρ) H H'
  out : ∀ b, O' b → O b ∨ H b = none
  grow : ∀ b, O b → O' b
  w : ∀ b, Wof σ' ρ' b → Wof σ ρ b ∨ H b = none
def EndS (B : Base) (O : Addr → Prop) (σ : St) (H : Hp) (ρ : Rho) (E : Ends) : Out → Prop
  | .nx ρ' => ∀ σ' H' O', Stp O σ H ρ O' σ' H' ρ' → Good B O' σ' H' ρ' → E.nx σ' H'
  | .rt d ρ' => ∀ v σ' H' O', Stp O σ H ρ O' σ' H' ρ' → Good B O' σ' H' ρ' → Rep B.O0 H' d v → E.rt v H'
def tS (B : Base) (F : Rho → Option Out) : TS := fun E σ H => ∃ O ρ r, Good B O σ H ρ ∧ F ρ = some r ∧ EndS B O σ H ρ E r
structure DS (X : Cx) (B : Base) (st : Stmt) (F : Rho → Option Out) : Prop where
  ps : PS X st (tS B F)
structure DSs (X : Cx) (B : Base) (st : List Stmt) (F : Rho → Option Out) : Prop where
  ps : PSs X st (tS B F)
section
variable {B : Base} {O O' O1 O2 : Addr → Prop} {σ σ1 σ2 : St} {H H' H1 H2 : Hp} {ρ ρ' ρ1 ρ2 : Rho}
theorem Keep.none {W : Addr → Prop} (k : Keep W H H') (hw : ∀ b, W b → ∃ vs, H b = some (.lst vs)) {b : Addr} (h : H' b = none) : H b = none := by
  cases e : H b with
  | none => rfl
  | some o => exact absurd h (k.ne hw (some_ne e))
theorem Good.none (g : Good B O σ H ρ) (k : Keep (Wof σ ρ) H H') {b : Addr} (h : H' b = Option.none) : H b = Option.none := k.none (fun b z => (g.wof z).2) h
theorem Stp.refl : Stp O σ H ρ O σ H ρ := ⟨.of (Same.refl H), fun _ h => .inl h, fun _ h => h, fun _ h => .inl h⟩
theorem Stp.ext (x : Ext B O σ H ρ H' ρ') : Stp O σ H ρ O σ H' ρ' := ⟨x.keep, fun _ h => .inl h, fun _ h => h, fun b h => .inl (x.w b h)⟩
theorem Stp.trans (g : Good B O σ H ρ) (a : Stp O σ H ρ O1 σ1 H1 ρ1) (b : Stp O1 σ1 H1 ρ1 O2 σ2 H2 ρ2) : Stp O σ H ρ O2 σ2 H2 ρ2 :=
  ⟨a.keep.trans b.keep a.w, fun c h => (b.out c h).elim (fun z => a.out c z) fun z => .inr (g.none a.keep z), fun c h => b.grow c (a.grow c h), fun c h => (b.w c h).elim (fun z => a.w c z) fun z => .inr (g.none a.keep z)⟩
theorem Stp.mv (g : Good B O σ H ρ) (a : Stp O σ H ρ O1 σ1 H1 ρ1) : Mv O H O1 H1 := g.mv a.keep a.out
theorem EndS.after {E : Ends} {r : Out} (g : Good B O σ H ρ) (a : Stp O σ H ρ O1 σ1 H1 ρ1) (q : EndS B O σ H ρ E r) : EndS B O1 σ1 H1 ρ1 E r := by
  cases r with
  | nx ρ' => exact fun σ' H' O' s gd => q σ' H' O' (a.trans g s) gd
  | rt d ρ' => exact fun v σ' H' O' s gd rp => q v σ' H' O' (a.trans g s) gd rp
theorem get_set_ne {α : Type} {l : List α} {i j : Nat} {x : α} (h : i ≠ j) : (l.set i x)[j]? = l[j]? := List.getElem?_set_ne h
/-- a slot gets a datum -/
theorem Good.set (g : Good B O σ H ρ) {i : Nat} {d : D} {v : V} (r : Rep O H d v) : Good B O (σ.set i (some v)) H (ρ.set i (.dat d)) ∧ ∀ b, Wof (σ.set i (some v)) (ρ.set i (.dat d)) b → Wof σ ρ b := by
  have hw : ∀ (j : Nat) s, (ρ.set i (.dat d))[j]? = some s → isOwn s = true → i ≠ j ∧ ρ[j]? = some s := fun j s e q => by
    by_cases hj : i = j
    · subst hj
      by_cases hl : i < ρ.length
      · rw [List.getElem?_set_self hl] at e; cases e; cases q
      · rw [List.getElem?_eq_none (by simpa using hl)] at e; cases e
    · exact ⟨hj, by rw [get_set_ne hj] at e; exact e⟩
  refine ⟨⟨by simp [g.len], g.frame, g.o0, g.r0, g.osub, g.otrk, g.h0, fun j s e => ?_, fun j k s t b e1 e2 q1 q2 e3 e4 => ?_⟩, fun b ⟨j, s, e, q, e3⟩ => ?_⟩
  · by_cases hj : i = j
    · subst hj
      have hl : i < ρ.length := by
        by_cases hl : i < ρ.length
        · exact hl
        · rw [List.getElem?_eq_none (by simpa using hl)] at e; cases e
      rw [List.getElem?_set_self hl] at e
      cases e
      rw [List.getElem?_set_self (by rw [g.len]; exact hl)]
      exact ⟨v, rfl, r⟩
    · rw [get_set_ne hj] at e
      rw [get_set_ne hj]
      exact g.slots j s e
  · obtain ⟨h1, k1⟩ := hw j s e1 q1
    obtain ⟨h2, k2⟩ := hw k t e2 q2
    rw [get_set_ne h1] at e3
    rw [get_set_ne h2] at e4
    exact g.sep j k s t b k1 k2 q1 q2 e3 e4
  · obtain ⟨h1, k1⟩ := hw j s e q
    rw [get_set_ne h1] at e3
    exact ⟨j, s, k1, q, e3⟩
/-- a slot gets a new list of its own -/
theorem Good.setOwn (g : Good B O σ H ρ) {i : Nat} {ds : List D} {a : Addr} {vs : List V} (s : Same H H') (ha : H a = Option.none) (ha' : H' a = some (.lst vs)) (r : RepL (fun b => O b ∨ b = a) H' ds vs) :
    Good B (fun b => O b ∨ b = a) (σ.set i (some (.ref a))) H' (ρ.set i (.own ds)) ∧ Stp O σ H ρ (fun b => O b ∨ b = a) (σ.set i (some (.ref a))) H' (ρ.set i (.own ds)) := by
  obtain ⟨n1, n2, n3⟩ := g.fresh ha
  have hout : ∀ b, (O b ∨ b = a) → O b ∨ H b = Option.none := fun b h => by
    rcases h with h | h
    · exact .inl h
    · exact .inr (by rw [h]; exact ha)
  have mv : Mv O H (fun b => O b ∨ b = a) H' := ⟨fun b o e _ n => s.keep b o e n, hout⟩
  have hne : ∀ (j : Nat) t b, ρ[j]? = some t → isOwn t = true → adr t σ[j]? b → b ≠ a := fun j t b e q e3 z => by
    obtain ⟨_, vs, h⟩ := g.wof ⟨j, t, e, q, e3⟩
    rw [z, ha] at h; cases h
  refine ⟨⟨by simp [g.len], g.frame.same s, g.o0, g.r0, fun b h => .inl (g.osub b h), fun b h => ?_, fun b h => s.ne (g.h0 b h), fun j t e => ?_, fun j k t u b e1 e2 q1 q2 e3 e4 => ?_⟩, ⟨.of s, hout, fun b h => .inl h, fun b ⟨j, t, e, q, e3⟩ => ?_⟩⟩
  · rcases h with h | h
    · exact s.ne (g.otrk b h)
    · rw [h]; exact some_ne ha'
  · by_cases hj : i = j
    · subst hj
      have hl : i < ρ.length := by
        by_cases hl : i < ρ.length
        · exact hl
        · rw [List.getElem?_eq_none (by simpa using hl)] at e; cases e
      rw [List.getElem?_set_self hl] at e
      cases e
      rw [List.getElem?_set_self (by rw [g.len]; exact hl)]
      exact ⟨a, vs, rfl, .inr rfl, n2, n3, ha', r⟩
    · rw [get_set_ne hj] at e
      rw [get_set_ne hj]
      have k := g.slots j t e
      cases t with
      | nil => trivial
      | dat d => exact SlOk.mv mv rfl k
      | own es => obtain ⟨b, us, e1, h1, h2, h3, h4, r4⟩ := k; exact ⟨b, us, e1, .inl h1, h2, h3, s b _ h4, RepL.mv mv _ _ r4⟩
      | bag es => obtain ⟨b, us, e1, h1, h2, h4, r4⟩ := k; exact ⟨b, us, e1, h1, .inl h2, s b _ h4, RepL.mv mv _ _ r4⟩
      | raw v => exact k
      | lam ks => exact SlOk.mv mv rfl k
      | doc C x l rl sts => exact SlOk.mvD mv .inl (fun us e => s l _ e) k
  · by_cases hj : i = j
    · by_cases hk : i = k
      · rw [← hj, ← hk]
      · subst hj
        rw [get_set_ne hk] at e2 e4
        have hl : i < ρ.length := by
          by_cases hl : i < ρ.length
          · exact hl
          · rw [List.getElem?_eq_none (by simpa using hl)] at e1; cases e1
        rw [List.getElem?_set_self hl] at e1
        cases e1
        rw [List.getElem?_set_self (by rw [g.len]; exact hl)] at e3
        cases e3
        exact absurd rfl (hne k u _ e2 q2 e4)
    · by_cases hk : i = k
      · subst hk
        rw [get_set_ne hj] at e1 e3
        have hl : i < ρ.length := by
          by_cases hl : i < ρ.length
          · exact hl
          · rw [List.getElem?_eq_none (by simpa using hl)] at e2; cases e2
        rw [List.getElem?_set_self hl] at e2
        cases e2
        rw [List.getElem?_set_self (by rw [g.len]; exact hl)] at e4
        cases e4
        exact absurd rfl (hne j t _ e1 q1 e3)
      · rw [get_set_ne hj] at e1 e3
        rw [get_set_ne hk] at e2 e4
        exact g.sep j k t u b e1 e2 q1 q2 e3 e4
  · by_cases hj : i = j
    · subst hj
      have hl : i < ρ.length := by
        by_cases hl : i < ρ.length
        · exact hl
        · rw [List.getElem?_eq_none (by simpa using hl)] at e; cases e
      rw [List.getElem?_set_self hl] at e
      cases e
      rw [List.getElem?_set_self (by rw [g.len]; exact hl)] at e3
      cases e3
      exact .inr ha
    · rw [get_set_ne hj] at e e3
      exact .inl ⟨j, t, e, q, e3⟩
@[simp] def reOwn (t : Sl) (ds : List D) : Sl := match t with
  | .own _ => .own ds
  | .bag _ => .bag ds
  | s => s
@[simp] def ownOf : Sl → Option (List D)
  | .own ds => some ds
  | .bag ds => some ds
  | _ => none
/-- the list of a slot's own is changed -/
theorem Good.put (g : Good B O σ H ρ) {i : Nat} {t : Sl} {ds es : List D} {a : Addr} {ws : List V} (hi : ρ[i]? = some t) (ht : ownOf t = some es) (ha : σ[i]? = some (some (.ref a))) (s : ButB a H H') (ha' : H' a = some (.lst ws)) (r : RepL O H' ds ws) :
    Ext B O σ H ρ H' (ρ.set i (reOwn t ds)) := by
  have ho : isOwn t = true := by
    cases t with
    | nil => cases ht
    | dat _ => cases ht
    | own _ => rfl
    | bag _ => rfl
    | raw _ => cases ht
    | lam _ => cases ht
    | doc _ _ _ _ _ => cases ht
  have ho' : isOwn (reOwn t ds) = true := by
    cases t with
    | nil => cases ht
    | dat _ => cases ht
    | own _ => rfl
    | bag _ => rfl
    | raw _ => cases ht
    | lam _ => cases ht
    | doc _ _ _ _ _ => cases ht
  have had : adr t σ[i]? a := by
    cases t with
    | own _ => exact ha
    | bag _ => exact ha
    | _ => cases ht
  have hre : ∀ (o : Option (Option V)) b, adr (reOwn t ds) o b → adr t o b := fun o b z => by
    cases t with
    | own _ => exact z
    | bag _ => exact z
    | _ => cases ht
  have hl : i < ρ.length := (List.getElem?_eq_some_iff.mp hi).1
  obtain ⟨oa, vs, va⟩ := g.wof ⟨i, t, hi, ho, had⟩
  have kp : Keep (Wof σ ρ) H H' := ⟨fun b o e n tt => s.keep b o (fun z => n ⟨i, t, hi, ho, by rw [z]; exact had⟩) e tt, s.tb, fun b us e => by
    by_cases hb : b = a
    · exact ⟨ws, by rw [hb]; exact ha'⟩
    · exact ⟨us, s.keep b _ hb e⟩⟩
  have mv := g.mv (O' := O) kp fun _ h => .inl h
  have hw : ∀ (j : Nat) u, (ρ.set i (reOwn t ds))[j]? = some u → isOwn u = true → ∃ u', ρ[j]? = some u' ∧ isOwn u' = true ∧ ∀ b, adr u σ[j]? b → adr u' σ[j]? b := fun j u e q => by
    by_cases hj : i = j
    · subst hj
      rw [List.getElem?_set_self hl] at e
      cases e
      exact ⟨t, hi, ho, fun b => hre _ b⟩
    · rw [get_set_ne hj] at e; exact ⟨u, e, q, fun _ z => z⟩
  have gd : Good B O σ H' (ρ.set i (reOwn t ds)) := by
    refine ⟨by simp [g.len], ⟨fun b o e n tt => ?_, g.frame.tb.trans s.tb⟩, g.o0, g.r0, g.osub, fun b h => ?_, fun b h => ?_, fun j u e => ?_, fun j k u u' b e1 e2 q1 q2 e3 e4 => ?_⟩
    · refine s.keep b o (fun z => ?_) (g.frame.keep b o e n tt) tt
      subst z
      have k := g.slots i t hi
      cases t with
      | nil => cases ht
      | dat _ => cases ht
      | own _ => obtain ⟨b', us, e1, _, _, h3, _⟩ := k; rw [ha] at e1; cases e1; rw [h3] at e; cases e
      | bag _ => obtain ⟨b', us, e1, h1, _⟩ := k; rw [ha] at e1; cases e1; exact n h1
      | raw _ => cases ht
      | lam _ => cases ht
      | doc _ _ _ _ _ => cases ht
    · exact kp.ne (fun c z => (g.wof z).2) (g.otrk b h)
    · exact kp.ne (fun c z => (g.wof z).2) (g.h0 b h)
    · by_cases hj : i = j
      · subst hj
        rw [List.getElem?_set_self hl] at e
        cases e
        have k := g.slots i t hi
        cases t with
        | nil => cases ht
        | dat _ => cases ht
        | own _ => obtain ⟨b', us, e1, h1, h2, h3, _⟩ := k; rw [ha] at e1; cases e1; exact ⟨a, ws, ha, h1, h2, h3, ha', r⟩
        | bag _ => obtain ⟨b', us, e1, h1, h2, _⟩ := k; rw [ha] at e1; cases e1; exact ⟨a, ws, ha, h1, h2, ha', r⟩
        | raw _ => cases ht
        | lam _ => cases ht
        | doc _ _ _ _ _ => cases ht
      · rw [get_set_ne hj] at e
        have k := g.slots j u e
        cases u with
        | nil => trivial
        | dat d => exact SlOk.mv mv rfl k
        | own fs =>
          obtain ⟨b, us, e1, h1, h2, h3, h4, r4⟩ := k
          have hb : b ≠ a := fun z => hj (g.sep i j t _ b hi e ho rfl (by rw [z]; exact had) e1)
          exact ⟨b, us, e1, h1, h2, h3, s.keep b _ hb h4, RepL.mv mv _ _ r4⟩
        | bag fs =>
          obtain ⟨b, us, e1, h1, h2, h4, r4⟩ := k
          have hb : b ≠ a := fun z => hj (g.sep i j t _ b hi e ho rfl (by rw [z]; exact had) e1)
          exact ⟨b, us, e1, h1, h2, s.keep b _ hb h4, RepL.mv mv _ _ r4⟩
        | raw v => exact k
        | lam ks => exact SlOk.mv mv rfl k
        | doc C x l rl sts =>
          have hb : l ≠ a := fun z => hj (g.sep i j t _ l hi e ho rfl (by rw [z]; exact had) rfl)
          exact SlOk.mvD mv id (fun us e => s.keep l _ hb e) k
    · obtain ⟨x1, y1, z1, w1⟩ := hw j u e1 q1
      obtain ⟨x2, y2, z2, w2⟩ := hw k u' e2 q2
      exact g.sep j k x1 x2 b y1 y2 z1 z2 (w1 _ e3) (w2 _ e4)
  refine ⟨kp, fun b ⟨j, u, e, q, e3⟩ => ?_, gd⟩
  obtain ⟨x1, y1, z1, w1⟩ := hw j u e q
  exact ⟨j, x1, y1, z1, w1 _ e3⟩
theorem Good.ownAt (g : Good B O σ H ρ) {i : Nat} {t : Sl} {es : List D} (hi : ρ[i]? = some t) (ht : ownOf t = some es) : ∃ a vs, σ[i]? = some (some (.ref a)) ∧ O a ∧ H a = some (.lst vs) ∧ RepL O H es vs := by
  have k := g.slots i t hi
  cases t with
  | nil => cases ht
  | dat _ => cases ht
  | own _ => cases ht; obtain ⟨b', us, e1, h1, h2, h3, h4, r⟩ := k; exact ⟨b', us, e1, h1, h4, r⟩
  | bag _ => cases ht; obtain ⟨b', us, e1, h1, h2, h4, r⟩ := k; exact ⟨b', us, e1, h2, h4, r⟩
  | raw _ => cases ht
  | lam _ => cases ht
  | doc _ _ _ _ _ => cases ht
end
/-! ### blocks -/
@[simp] def seqF (F G : Rho → Option Out) : Rho → Option Out := fun ρ => (F ρ).bind fun r => match r with
  | .nx ρ1 => G ρ1
  | .rt d ρ1 => some (.rt d ρ1)
@[simp] def skipF : Rho → Option Out := fun ρ => some (.nx ρ)
@[simp] def setF (i : Nat) (f : Rho → Option (D × Rho)) : Rho → Option Out := fun ρ => (f ρ).bind fun p => some (.nx (p.2.set i (.dat p.1)))
@[simp] def setP (i : Nat) (g : Rho → Option D) : Rho → Option Out := fun ρ => (g ρ).bind fun d => some (.nx (ρ.set i (.dat d)))
@[simp] def setO (i : Nat) (g : Rho → Option D) : Rho → Option Out := fun ρ => (g ρ).bind fun d => match d with
  | .list ds => some (.nx (ρ.set i (.own ds)))
  | _ => none
@[simp] def retP (g : Rho → Option D) : Rho → Option Out := fun ρ => (g ρ).bind fun d => some (.rt d ρ)
@[simp] def retE (f : Rho → Option (D × Rho)) : Rho → Option Out := fun ρ => (f ρ).bind fun p => some (.rt p.1 p.2)
@[simp] def dropE (f : Rho → Option (D × Rho)) : Rho → Option Out := fun ρ => (f ρ).bind fun p => some (.nx p.2)
@[simp] def iteF (c : Rho → Option (Bool × Rho)) (F G : Rho → Option Out) : Rho → Option Out := fun ρ => (c ρ).bind fun p => if p.1 = true then F p.2 else G p.2
@[simp] def neverF : Rho → Option Out := fun _ => none
@[simp] def appF (i : Nat) (g : Rho → Option D) : Rho → Option Out := fun ρ => (g ρ).bind fun d => (ρ[i]?).bind fun t => (ownOf t).bind fun es => if es.length < 100000 then some (.nx (ρ.set i (reOwn t (es ++ [d])))) else none
@[simp] def subF (i : Nat) (gk g : Rho → Option D) : Rho → Option Out := fun ρ => (g ρ).bind fun d => (gk ρ).bind fun k => (asInt k).bind fun k => (ρ[i]?).bind fun t => (ownOf t).bind fun es => (ixN es.length k).bind fun j => some (.nx (ρ.set i (reOwn t (es.set j d))))
@[simp] def drwE (i : Nat) (fs : Rho → Option (List D × Rho)) (F : List D → List D → Option (D × List D)) : Rho → Option (D × Rho) := fun ρ => (ρ[i]?).bind fun t0 => (ownOf t0).bind fun _ => (fs ρ).bind fun p => (p.2[i]?).bind fun t => (ownOf t).bind fun es => (F es p.1).bind fun q => some (q.1, p.2.set i (reOwn t q.2))
section
variable {X : Cx} {B : Base} {m : Md} {e : Expr} {es : List Expr} {st : Stmt} {sts tts : List Stmt} {F G : Rho → Option Out} {g gk : Rho → Option D} {f : Rho → Option (D × Rho)} {c : Rho → Option (Bool × Rho)} {pos p p' : Pos}
theorem ds_nil : DSs X B [] skipF := ⟨pss_nil.imp fun E σ H ⟨O, ρ, r, gd, e, q⟩ => by
  cases e
  exact q σ H O .refl gd⟩
theorem ds_cons (h : DS X B st F) (h2 : DSs X B sts G) : DSs X B (st :: sts) (seqF F G) := ⟨(pss_cons h.ps h2.ps).imp fun E σ H ⟨O, ρ, r, gd, e, q⟩ => by
  obtain ⟨r1, e1, e2⟩ := bind_some e
  refine ⟨O, ρ, r1, gd, e1, ?_⟩
  cases r1 with
  | nx ρ1 => exact fun σ1 H1 O1 s1 g1 => ⟨O1, ρ1, r, g1, e2, q.after gd s1⟩
  | rt d ρ1 => cases e2; exact q⟩
theorem ds_one (h : DS X B st F) : DSs X B [st] F := ⟨pss_one h.ps⟩
theorem ds_never : DS X B st neverF := ⟨⟨fun _ _ _ _ _ _ ⟨_, _, _, _, e, _⟩ => nomatch e⟩⟩
theorem ds_pass : DS X B (.Pass pos) skipF := ⟨ps_pass.imp fun E σ H ⟨O, ρ, r, gd, e, q⟩ => by
  cases e
  exact q σ H O .refl gd⟩
theorem ds_set {i : Nat} {x : Str} (hN : X.N.Nodup) (hi : X.N[i]? = some x) (hx : Loc X.env.scope x) (he : DE X B e f) (hs : swapsWith e (some (.Name x p')) pos.line X.env = pure false := by rfl) (hf : X.fn x = true ∨ X.env.scope.names.lookup x = some .local := by first | exact .inl rfl | exact .inr rfl | assumption) :
    DS X B (.Assign [.Name x p'] e pos) (setF i f) := ⟨(ps_set hN hi hx he.pe hs hf).imp fun E σ H ⟨O, ρ, r, gd, e, q⟩ => by
  obtain ⟨⟨d, ρ1⟩, e1, e2⟩ := bind_some e
  cases e2
  refine ⟨O, ρ, d, ρ1, gd, e1, fun v H1 s1 r1 => ?_⟩
  obtain ⟨g2, w2⟩ := s1.good.set (i := i) r1
  exact q _ H1 O ⟨s1.keep, fun _ h => .inl h, fun _ h => h, fun b h => .inl (s1.w b (w2 b h))⟩ g2⟩
theorem ds_setP {i : Nat} {x : Str} (hN : X.N.Nodup) (hi : X.N[i]? = some x) (hx : Loc X.env.scope x) (he : DP X B .str e g) (hs : swapsWith e (some (.Name x p')) pos.line X.env = pure false := by rfl) (hf : X.fn x = true ∨ X.env.scope.names.lookup x = some .local := by first | exact .inl rfl | exact .inr rfl | assumption) :
    DS X B (.Assign [.Name x p'] e pos) (setP i g) := ⟨(ps_set hN hi hx he.pe hs hf).imp fun E σ H ⟨O, ρ, r, gd, e, q⟩ => by
  obtain ⟨d, e1, e2⟩ := bind_some e
  cases e2
  refine ⟨O, ρ, d, gd, e1, fun v H1 s1 r1 => ?_⟩
  obtain ⟨g2, w2⟩ := (gd.same s1).set (i := i) r1
  exact q _ H1 O ⟨.of s1, fun _ h => .inl h, fun _ h => h, fun b h => .inl (w2 b h)⟩ g2⟩
theorem ds_ret (he : DP X B .bas e g) : DS X B (.Return (some e) pos) (retP g) := ⟨(ps_ret he.pe).imp fun E σ H ⟨O, ρ, r, gd, e, q⟩ => by
  obtain ⟨d, e1, e2⟩ := bind_some e
  cases e2
  exact ⟨O, ρ, d, gd, e1, fun v H1 s1 r1 => q v σ H1 O ⟨.of s1, fun _ h => .inl h, fun _ h => h, fun b h => .inl h⟩ (gd.same s1) r1⟩⟩
theorem ds_retE (he : DE X B e f) : DS X B (.Return (some e) pos) (retE f) := ⟨(ps_ret he.pe).imp fun E σ H ⟨O, ρ, r, gd, e, q⟩ => by
  obtain ⟨⟨d, ρ1⟩, e1, e2⟩ := bind_some e
  cases e2
  exact ⟨O, ρ, d, ρ1, gd, e1, fun v H1 s1 r1 => q v σ H1 O (.ext s1) s1.good (r1.less gd.osub)⟩⟩
theorem ds_expr (he : DE X B e f) (hs : swapsWith e none pos.line X.env = pure false := by rfl) : DS X B (.Expr e pos) (dropE f) := ⟨(ps_expr he.pe hs).imp fun E σ H ⟨O, ρ, r, gd, e, q⟩ => by
  obtain ⟨⟨d, ρ1⟩, e1, e2⟩ := bind_some e
  cases e2
  exact ⟨O, ρ, d, ρ1, gd, e1, fun v H1 s1 r1 => q σ H1 O (.ext s1) s1.good⟩⟩
theorem ds_if (hc : DET X B e c) (h1 : DSs X B sts F) (h2 : DSs X B tts G) : DS X B (.If e sts tts pos) (iteF c F G) := ⟨(ps_if hc.pt h1.ps h2.ps).imp fun E σ H ⟨O, ρ, r, gd, e, q⟩ => by
  obtain ⟨⟨k, ρ1⟩, e1, e2⟩ := bind_some e
  refine ⟨O, ρ, k, ρ1, gd, e1, fun H1 s1 => ?_⟩
  cases k with
  | true => exact ⟨O, ρ1, r, s1.good, e2, q.after gd (.ext s1)⟩
  | false => exact ⟨O, ρ1, r, s1.good, e2, q.after gd (.ext s1)⟩⟩
/-- x.append(e), x a name with a list of its own -/
theorem ds_app {i : Nat} {x : Str} {apos xpos cpos : Pos} (hN : X.N[i]? = some x) (he : DP X B .str e g) (hv : Vis X.env.scope x := by first | exact Or.inl rfl | exact Or.inr (Or.inl rfl) | exact Or.inr (Or.inr rfl)) (hd : (x == ("__debug__" : Str)) = false := by decide)
    (hcd : (x == ("__classdict__" : Str)) = false := by decide)
    (hpe : ∀ {to : TE} {t : TA}, PE X (.Name x xpos) to → PA X [e] t → PE X (.Call (.Attribute (.Name x xpos) "append" apos) [e] [] cpos) (tBM X.K "list" rAppend to t) := by
      intro to t h1 h2; exact pe_bm PySem.F.plainAttrs_list PySem.F.slot_list_append PySem.F.type_list_append mt_append h1 h2)
    (hs : swapsWith (.Call (.Attribute (.Name x xpos) "append" apos) [e] [] cpos) none pos.line X.env = pure false := by rfl) (hst : starEach [e] X.env = [(false, eval e X.env)] := by rfl) :
    DS X B (.Expr (.Call (.Attribute (.Name x xpos) "append" apos) [e] [] cpos) pos) (appF i g) := ⟨(ps_expr (hpe (pv i hN hv hd hcd) (pa_cons he.pe pa_nil hst)) hs).imp fun E σ H ⟨O, ρ, r, gd, e, q⟩ => by
  obtain ⟨d, e1, e2⟩ := bind_some e
  obtain ⟨t, e3, e4⟩ := bind_some e2
  obtain ⟨fs, e5, e6⟩ := bind_some e4
  split at e6
  · next hl =>
    cases e6
    obtain ⟨a, vs, h1, h2, h3, h4⟩ := gd.ownAt e3 e5
    refine ⟨_, h1, .inl ⟨rfl, vs, .of h3⟩, O, ρ, d, gd, e1, fun v H1 s1 r1 => ?_⟩
    refine ⟨a, vs, v, rfl, rfl, s1 a _ h3, ?_, ?_⟩
    · rw [← h4.length, sizeLine_eq]; omega
    · have g1 := gd.same s1
      have m2 : Mv O H1 O (upd H1 a (.lst (vs ++ [v]))) := ⟨fun b o e q _ => by
        rw [upd_ne]
        · exact e
        · rintro rfl
          rcases q with q | q
          · rw [s1 _ _ h3] at e; cases e; exact q vs rfl
          · exact q h2, fun _ h => .inl h⟩
      have x := g1.put (H' := upd H1 a (.lst (vs ++ [v]))) e3 e5 h1 (.of (.lst (s1 _ _ h3)) fun b o hb e => by rw [upd_ne hb]; exact e) upd_same (RepL.mv m2 _ _ ((h4.same s1).append (.one r1)))
      exact q σ _ O (.ext ((Ext.of gd s1).trans x)) x.good
  · cases e6⟩
/-- x[k] = e, x a name with a list of its own -/
theorem ds_sub {i : Nat} {x : Str} {k : Expr} {xpos spos : Pos} (hN : X.N[i]? = some x) (hk : DP X B .str k gk) (he : DP X B .str e g) (hv : Vis X.env.scope x := by first | exact Or.inl rfl | exact Or.inr (Or.inl rfl) | exact Or.inr (Or.inr rfl)) (hd : (x == ("__debug__" : Str)) = false := by decide)
    (hcd : (x == ("__classdict__" : Str)) = false := by decide)
    (hps : ∀ {to ti te : TE}, PE X (.Name x xpos) to → PE X k ti → PE X e te → PS X (.Assign [.Subscript (.Name x xpos) k spos] e pos) (tAsg te (gSub to ti rSetL)) := by
      intro to ti te h1 h2 h3; exact ps_asg h3 (pg_sub h1 h2 set_list)) :
    DS X B (.Assign [.Subscript (.Name x xpos) k spos] e pos) (subF i gk g) := ⟨(hps (pv i hN hv hd hcd) hk.pe he.pe).imp fun E σ H ⟨O, ρ, r, gd, e, q⟩ => by
  obtain ⟨d, e1, e2⟩ := bind_some e
  obtain ⟨kd, e3, e4⟩ := bind_some e2
  obtain ⟨n, e5, e6⟩ := bind_some e4
  obtain ⟨t, e7, e8⟩ := bind_some e6
  obtain ⟨fs, e9, e10⟩ := bind_some e8
  obtain ⟨j, e11, e12⟩ := bind_some e10
  cases e12
  have ek : kd = .int n := by
    unfold asInt at e5
    split at e5
    · cases e5; rfl
    · cases e5
  subst ek
  obtain ⟨a, vs, h1, h2, h3, h4⟩ := gd.ownAt e7 e9
  refine ⟨O, ρ, d, gd, e1, fun v H1 s1 r1 => ⟨_, h1, O, ρ, _, gd.same s1, e3, fun w H2 s2 r2 => ?_⟩⟩
  refine ⟨a, vs, n, j, rfl, rep_int.mp r2, s2 a _ (s1 a _ h3), by rw [← h4.length]; exact e11, ?_⟩
  have s12 := s1.trans s2
  have g1 := gd.same s12
  have m2 : Mv O H2 O (upd H2 a (.lst (vs.set j v))) := ⟨fun b o e q _ => by
    rw [upd_ne]
    · exact e
    · rintro rfl
      rcases q with q | q
      · rw [s12 _ _ h3] at e; cases e; exact q vs rfl
      · exact q h2, fun _ h => .inl h⟩
  have x := g1.put (H' := upd H2 a (.lst (vs.set j v))) e7 e9 h1 (.of (.lst (s12 _ _ h3)) fun b o hb e => by rw [upd_ne hb]; exact e) upd_same (RepL.mv m2 _ _ (RepL.set (r1.same s2) j (h4.same s12)))
  exact q σ _ O (.ext ((Ext.of gd s12).trans x)) x.good⟩
end
end DL

namespace DL
open PySem PySem.Spec
open PyProof.Rows hiding St
open L2
/-! ## targets -/
def tG (B : Base) (is : List Nat) (bind : D → Rho → Option Rho) : TG := fun v σ H Q => ∃ O ρ d ρ', Good B O σ H ρ ∧ Rep O H d v ∧ bind d ρ = some ρ' ∧
  ∀ σ', Good B O σ' H ρ' → (∀ b, Wof σ' ρ' b → Wof σ ρ b) → (∀ j, j ∉ is → σ'[j]? = σ[j]?) → σ'.length = σ.length → Q σ' H
def tGs (B : Base) (is : List Nat) (bind : List D → Rho → Option Rho) : TGs := fun vs σ H Q => ∃ O ρ ds ρ', Good B O σ H ρ ∧ RepL O H ds vs ∧ bind ds ρ = some ρ' ∧
  ∀ σ', Good B O σ' H ρ' → (∀ b, Wof σ' ρ' b → Wof σ ρ b) → (∀ j, j ∉ is → σ'[j]? = σ[j]?) → σ'.length = σ.length → Q σ' H
structure DG (X : Cx) (B : Base) (tg : Expr) (is : List Nat) (bind : D → Rho → Option Rho) : Prop where
  pg : PG X tg (tG B is bind)
structure DGs (X : Cx) (B : Base) (tgs : List Expr) (is : List Nat) (bind : List D → Rho → Option Rho) : Prop where
  pgs : PGs X tgs (tGs B is bind)
@[simp] def bName (i : Nat) : D → Rho → Option Rho := fun d ρ => some (ρ.set i (.dat d))
@[simp] def bNil : List D → Rho → Option Rho := fun ds ρ => match ds with
  | [] => some ρ
  | _ => none
@[simp] def bCons (b : D → Rho → Option Rho) (bs : List D → Rho → Option Rho) : List D → Rho → Option Rho := fun ds ρ => match ds with
  | d :: ds => (b d ρ).bind fun ρ1 => bs ds ρ1
  | [] => none
@[simp] def bTup (n : Nat) (bs : List D → Rho → Option Rho) : D → Rho → Option Rho := fun d ρ => match d with
  | .tuple ds => if ds.length = n then bs ds ρ else none
  | _ => none
theorem _root_.L2.PG.imp {X : Cx} {e : Expr} {t t' : TG} (h : PG X e t) (i : ∀ v σ H Q, t' v σ H Q → t v σ H Q) : PG X e t' := ⟨fun pins s σ H v u Q I r q => h.run pins s σ H v u Q I r (i v σ H Q q)⟩
theorem _root_.L2.PGs.imp {X : Cx} {e : List Expr} {t t' : TGs} (h : PGs X e t) (i : ∀ v σ H Q, t' v σ H Q → t v σ H Q) : PGs X e t' := ⟨fun pins s σ H v u Q I r q => h.run pins s σ H v u Q I r (i v σ H Q q)⟩
theorem _root_.L2.PI.imp {X : Cx} {tg e : Expr} {t t' : TI} (h : PI X tg e t) (i : ∀ σ H Q, t' σ H Q → t σ H Q) : PI X tg e t' := ⟨fun pins s σ H Q I q => h.run pins s σ H Q I (i σ H Q q)⟩
theorem _root_.L2.PI.or {X : Cx} {tg e : Expr} {t t' : TI} (h : PI X tg e t) (h' : PI X tg e t') : PI X tg e (fun σ H Q => t σ H Q ∨ t' σ H Q) := ⟨fun pins s σ H Q I q => q.elim (fun q => h.run pins s σ H Q I q) fun q => h'.run pins s σ H Q I q⟩
section
variable {X : Cx} {B : Base} {e : Expr} {es : List Expr} {is js : List Nat} {b : D → Rho → Option Rho} {bs : List D → Rho → Option Rho} {pos : Pos}
theorem dg_name {i : Nat} {x : Str} (hN : X.N.Nodup) (hi : X.N[i]? = some x) (hx : Loc X.env.scope x) (hf : X.fn x = true ∨ X.env.scope.names.lookup x = some .local := by first | exact .inl rfl | exact .inr rfl | assumption) : DG X B (.Name x pos) [i] (bName i) :=
  ⟨(pg_name hN hi hx hf).imp fun v σ H Q ⟨O, ρ, d, ρ', gd, r, e, q⟩ => by
    cases e
    obtain ⟨g2, w2⟩ := gd.set (i := i) r
    exact q _ g2 w2 (fun j hj => get_set_ne (fun z => hj (by simp [z]))) (by simp)⟩
theorem dgs_nil : DGs X B [] [] bNil := ⟨pgs_nil.imp fun vs σ H Q ⟨O, ρ, ds, ρ', gd, r, e, q⟩ => by
  unfold bNil at e
  split at e
  · cases e
    simp only [RepL] at r
    exact ⟨r, q σ gd (fun _ h => h) (fun _ _ => rfl) rfl⟩
  · cases e⟩
theorem dgs_cons (h : DG X B e is b) (h2 : DGs X B es js bs) (hs : (assignEach (e :: es) X.env).map (·.2) = assign e X.env :: (assignEach es X.env).map (·.2) := by rfl) : DGs X B (e :: es) (is ++ js) (bCons b bs) :=
  ⟨(pgs_cons h.pg h2.pgs hs).imp fun vs σ H Q ⟨O, ρ, ds, ρ', gd, r, e, q⟩ => by
    unfold bCons at e
    split at e
    · next d ds' =>
      obtain ⟨ρ1, e1, e2⟩ := bind_some e
      simp only [RepL] at r
      obtain ⟨v, ws, rfl, r1, r2⟩ := r
      refine ⟨v, ws, rfl, O, ρ, d, ρ1, gd, r1, e1, fun σ1 g1 w1 s1 l1 => ⟨O, ρ1, ds', ρ', g1, r2, e2, fun σ2 g2 w2 s2 l2 => ?_⟩⟩
      exact q σ2 g2 (fun c h => w1 c (w2 c h)) (fun j hj => by
        simp only [List.mem_append, not_or] at hj
        rw [s2 j hj.2, s1 j hj.1]) (l2.trans l1)
    · cases e⟩
theorem dg_tup {n : Nat} {k} (hc : X.calm = true) (h : DGs X B es is bs) (hn : (assignEach es X.env).length = n := by rfl) (hst : (assignEach es X.env).findIdx? (·.1) = none := by rfl) : DG X B (.Tuple es k pos) is (bTup n bs) :=
  ⟨(pg_tup hc h.pgs hn hst).imp fun v σ H Q ⟨O, ρ, d, ρ', gd, r, e, q⟩ => by
    unfold bTup at e
    split at e
    · next ds =>
      split at e
      · next hl =>
        simp only [Rep] at r
        obtain ⟨a, vs, rfl, ha, r⟩ := r
        exact ⟨a, vs, rfl, .of ha, by rw [← r.length]; exact hl, O, ρ, ds, ρ', gd, r, e, q⟩
      · cases e
    · cases e⟩
end
/-! ## what is walked -/
def Src (O : Addr → Prop) (H : Hp) (J : It) (ds : List D) : Prop := ∃ G : (Addr → Prop) → Hp → Prop, G O H ∧ (∀ O H O' H', Mv O H O' H' → G O H → G O' H') ∧ (∀ i O H, i < ds.length → G O H → J.go i H) ∧ (∀ O H, G O H → J.stop ds.length H) ∧
  ∀ i O H x H', i < ds.length → Otr O H → G O H → J.yld i H x H' → ∃ d, ds[i]? = some d ∧ Same H H' ∧ Rep O H' d x
def tIt (B : Base) (gs : Rho → Option (List D)) : TI := fun σ H R => ∃ O ρ ds, Good B O σ H ρ ∧ gs ρ = some ds ∧ ∀ J H', Same H H' → Src O H' J ds → R J H'
def tItE (B : Base) (fs : Rho → Option (List D × Rho)) : TI := fun σ H R => ∃ O ρ ds ρ', Good B O σ H ρ ∧ fs ρ = some (ds, ρ') ∧ ∀ J H', Ext B O σ H ρ H' ρ' → Src O H' J ds → R J H'
structure DI (X : Cx) (B : Base) (tg e : Expr) (gs : Rho → Option (List D)) : Prop where
  pi : PI X tg e (tIt B gs)
structure DIE (X : Cx) (B : Base) (tg e : Expr) (fs : Rho → Option (List D × Rho)) : Prop where
  pi : PI X tg e (tItE B fs)
@[simp] def seqD : D → Option (List D)
  | .list ds => some ds
  | .tuple ds => some ds
  | _ => none
@[simp] def itD (g : Rho → Option D) : Rho → Option (List D) := fun ρ => (g ρ).bind seqD
@[simp] def itE (f : Rho → Option (D × Rho)) : Rho → Option (List D × Rho) := fun ρ => (f ρ).bind fun p => (seqD p.1).bind fun ds => some (ds, p.2)
@[simp] def toI (gs : Rho → Option (List D)) : Rho → Option (List D × Rho) := fun ρ => (gs ρ).bind fun ds => some (ds, ρ)
def rngL (lo : Int) (n : Nat) : List D := (List.range n).map fun (i : Nat) => .int (lo + (i : Int))
def rng1S : List D → Option (List D)
  | [.int j] => if -(2 ^ 62) ≤ j ∧ j < 2 ^ 62 then some (rngL 0 j.toNat) else none
  | _ => none
def rng2S : List D → Option (List D)
  | [.int i, .int j] => if -(2 ^ 62) ≤ i ∧ i < 2 ^ 62 ∧ -(2 ^ 62) ≤ j ∧ j < 2 ^ 62 then some (rngL i (j - i).toNat) else none
  | _ => none
/-- not to be unfolded by the kernel: it would count down from the bound -/
noncomputable def rng1 : List D → Option (List D) := Classical.choose (⟨rng1S, rfl⟩ : ∃ f, f = rng1S)
noncomputable def rng2 : List D → Option (List D) := Classical.choose (⟨rng2S, rfl⟩ : ∃ f, f = rng2S)
theorem rng1_def : rng1 = rng1S := Classical.choose_spec (⟨rng1S, rfl⟩ : ∃ f, f = rng1S)
theorem rng2_def : rng2 = rng2S := Classical.choose_spec (⟨rng2S, rfl⟩ : ∃ f, f = rng2S)
@[simp] def nI (gs : Rho → Option (List D)) (F : List D → Option (List D)) : Rho → Option (List D) := fun ρ => (gs ρ).bind F
@[simp] def nIE (fs : Rho → Option (List D × Rho)) (F : List D → Option (List D)) : Rho → Option (List D × Rho) := fun ρ => (fs ρ).bind fun p => (F p.1).bind fun ds => some (ds, p.2)
theorem src_list {K : PySem.W.Frag} {O : Addr → Prop} {H : Hp} {a : Addr} {vs : List V} {ds : List D} (no : ¬ O a) (ha : H a = some (.lst vs)) (r : RepL O H ds vs) : Src O H (Itl K a) ds := by
  refine ⟨fun O H => ¬ O a ∧ H a = some (.lst vs) ∧ RepL O H ds vs, ⟨no, ha, r⟩, fun O H O' H' m ⟨h1, h2, h3⟩ => ⟨fun z => ?_, m.keep a _ h2 (.inr h1), RepL.mv m _ _ h3⟩, fun i O H hi ⟨h1, h2, h3⟩ => ?_, fun O H ⟨h1, h2, h3⟩ => ?_, fun i O H x H' hi _ ⟨h1, h2, h3⟩ y => ?_⟩
  · rcases m.out a z with q | q
    · exact h1 q
    · rw [h2] at q; cases q
  · have hl := h3.length
    exact ⟨vs, vs[i], .of h2, by simp [← hl, hi]⟩
  · exact ⟨vs, .of h2, by rw [h3.length]; exact Nat.le_refl _⟩
  · obtain ⟨e, y⟩ := y
    subst e
    obtain ⟨d, e1, r1⟩ := h3.getV (y vs (.of h2))
    exact ⟨d, e1, Same.refl _, r1⟩
theorem src_tup {K : PySem.W.Frag} {O : Addr → Prop} {H : Hp} {a : Addr} {vs : List V} {ds : List D} (ha : H a = some (.tup vs)) (r : RepL O H ds vs) : Src O H (Itt K a) ds := by
  refine ⟨fun O H => H a = some (.tup vs) ∧ RepL O H ds vs, ⟨ha, r⟩, fun O H O' H' m ⟨h2, h3⟩ => ⟨m.keep a _ h2 (.inl fun us z => by cases z), RepL.mv m _ _ h3⟩, fun i O H hi ⟨h2, h3⟩ => ?_, fun O H ⟨h2, h3⟩ => ?_, fun i O H x H' hi _ ⟨h2, h3⟩ y => ?_⟩
  · have hl := h3.length
    exact ⟨vs, vs[i], .of h2, by simp [← hl, hi]⟩
  · exact ⟨vs, .of h2, by rw [h3.length]; exact Nat.le_refl _⟩
  · obtain ⟨e, y⟩ := y
    subst e
    obtain ⟨d, e1, r1⟩ := h3.getV (y vs (.of h2))
    exact ⟨d, e1, Same.refl _, r1⟩
theorem src_rng {O : Addr → Prop} {H : Hp} {lo : Int} {n : Nat} : Src O H (Itr lo n) (rngL lo n) := by
  refine ⟨fun _ _ => True, trivial, fun _ _ _ _ _ _ => trivial, fun i O H hi _ => ?_, fun O H _ => ?_, fun i O H x H' hi _ _ y => ?_⟩
  · show i < n
    simpa [rngL] using hi
  · show n ≤ _
    simp [rngL]
  · obtain ⟨e, y⟩ := y
    subst e y
    refine ⟨.int (lo + i), ?_, Same.refl _, rep_int.mpr rfl⟩
    have hi' : i < n := by simpa [rngL] using hi
    simp [rngL, hi']
section
variable {X : Cx} {B : Base} {tg e : Expr} {es : List Expr} {g : Rho → Option D} {f : Rho → Option (D × Rho)} {gs : Rho → Option (List D)} {fs : Rho → Option (List D × Rho)} {pos p : Pos}
theorem di_seq (h : DP X B .str e g) : DI X B tg e (itD g) := ⟨((pi_list h.pe).or (pi_tup h.pe)).imp fun σ H R ⟨O, ρ, ds, gd, e, q⟩ => by
  obtain ⟨d, e1, e2⟩ := bind_some e
  unfold seqD at e2
  split at e2
  · cases e2
    refine .inl ⟨O, ρ, _, gd, e1, fun v H1 s1 r1 => ?_⟩
    simp only [Rep] at r1
    obtain ⟨a, vs, rfl, no, ha, r⟩ := r1
    exact ⟨a, rfl, ⟨vs, .of ha⟩, q _ H1 s1 (src_list no ha r)⟩
  · cases e2
    refine .inr ⟨O, ρ, _, gd, e1, fun v H1 s1 r1 => ?_⟩
    simp only [Rep] at r1
    obtain ⟨a, vs, rfl, ha, r⟩ := r1
    exact ⟨a, rfl, ⟨vs, .of ha⟩, q _ H1 s1 (src_tup ha r)⟩
  · cases e2⟩
theorem die_seq (h : DE X B e f) : DIE X B tg e (itE f) := ⟨((pi_list h.pe).or (pi_tup h.pe)).imp fun σ H R ⟨O, ρ, ds, ρ', gd, e, q⟩ => by
  obtain ⟨⟨d, ρ1⟩, e1, e2⟩ := bind_some e
  obtain ⟨es, e3, e4⟩ := bind_some e2
  cases e4
  unfold seqD at e3
  split at e3
  · next he =>
    cases e3
    have he' : d = .list _ := he
    subst he'
    refine .inl ⟨O, ρ, _, _, gd, e1, fun v H1 s1 r1 => ?_⟩
    simp only [Rep] at r1
    obtain ⟨a, vs, rfl, no, ha, r⟩ := r1
    exact ⟨a, rfl, ⟨vs, .of ha⟩, q _ H1 s1 (src_list no ha r)⟩
  · next he =>
    cases e3
    have he' : d = .tuple _ := he
    subst he'
    refine .inr ⟨O, ρ, _, _, gd, e1, fun v H1 s1 r1 => ?_⟩
    simp only [Rep] at r1
    obtain ⟨a, vs, rfl, ha, r⟩ := r1
    exact ⟨a, rfl, ⟨vs, .of ha⟩, q _ H1 s1 (src_tup ha r)⟩
  · cases e3⟩
theorem die_of (h : DI X B tg e gs) : DIE X B tg e (toI gs) := ⟨h.pi.imp fun σ H R ⟨O, ρ, ds, ρ', gd, e, q⟩ => by
  obtain ⟨es, e1, e2⟩ := bind_some e
  cases e2
  exact ⟨O, ρ, _, gd, e1, fun J H1 s1 sr => q J H1 (.of gd s1) sr⟩⟩
theorem di_rng1 (hm : X.mg "range" = none) (ha : DPA X B .str [e] gs) (hg : Gl X "range" := by rfl) (hs : starEach [e] X.env = [(false, eval e X.env)] := by rfl) : DI X B tg (.Call (.Name "range" p) [e] [] pos) (nI gs rng1) := ⟨(pi_range1 hg hm ha.pa hs).imp fun σ H R ⟨O, ρ, ds, gd, e, q⟩ => by
  obtain ⟨es, e1, e2⟩ := bind_some e
  rw [rng1_def] at e2
  unfold rng1S at e2
  split at e2
  · split at e2
    · next hb =>
      cases e2
      refine ⟨O, ρ, _, gd, e1, fun vs H1 s1 r1 => ?_⟩
      simp only [RepL, rep_int] at r1
      obtain ⟨v, ws, rfl, rfl, rfl⟩ := r1
      exact ⟨_, rfl, hb.1, hb.2, q _ H1 s1 src_rng⟩
    · cases e2
  · cases e2⟩
theorem die_rng1 (hm : X.mg "range" = none) (ha : DEA X B [e] fs) (hg : Gl X "range" := by rfl) (hs : starEach [e] X.env = [(false, eval e X.env)] := by rfl) : DIE X B tg (.Call (.Name "range" p) [e] [] pos) (nIE fs rng1) := ⟨(pi_range1 hg hm ha.pa hs).imp fun σ H R ⟨O, ρ, ds, ρ', gd, e, q⟩ => by
  obtain ⟨⟨es, ρ1⟩, e1, e2⟩ := bind_some e
  obtain ⟨fs, e3, e4⟩ := bind_some e2
  cases e4
  rw [rng1_def] at e3
  unfold rng1S at e3
  split at e3
  · next he =>
    have he' : es = _ := he
    subst he'
    split at e3
    · next hb =>
      cases e3
      refine ⟨O, ρ, _, _, gd, e1, fun vs H1 s1 r1 => ?_⟩
      simp only [RepL, rep_int] at r1
      obtain ⟨v, ws, rfl, rfl, rfl⟩ := r1
      exact ⟨_, rfl, hb.1, hb.2, q _ H1 s1 src_rng⟩
    · cases e3
  · cases e3⟩
theorem di_rng2 {e2 : Expr} (hm : X.mg "range" = none) (ha : DPA X B .str [e, e2] gs) (hg : Gl X "range" := by rfl) (hs : starEach [e, e2] X.env = [(false, eval e X.env), (false, eval e2 X.env)] := by rfl) (hs2 : starEach [e2] X.env = [(false, eval e2 X.env)] := by rfl) :
    DI X B tg (.Call (.Name "range" p) [e, e2] [] pos) (nI gs rng2) := ⟨(pi_range2 hg hm ha.pa hs hs2).imp fun σ H R ⟨O, ρ, ds, gd, e, q⟩ => by
  obtain ⟨es, e1, e2⟩ := bind_some e
  rw [rng2_def] at e2
  unfold rng2S at e2
  split at e2
  · split at e2
    · next hb =>
      cases e2
      refine ⟨O, ρ, _, gd, e1, fun vs H1 s1 r1 => ?_⟩
      simp only [RepL, rep_int] at r1
      obtain ⟨v, ws, rfl, rfl, v2, ws2, rfl, rfl, rfl⟩ := r1
      exact ⟨_, _, rfl, hb, q _ H1 s1 src_rng⟩
    · cases e2
  · cases e2⟩
end
/-! ## for -/
@[simp] def forL (b : D → Rho → Option Rho) (F : Rho → Option Out) : List D → Rho → Option Out
  | [], ρ => some (.nx ρ)
  | d :: ds, ρ => (b d ρ).bind fun ρ1 => (F ρ1).bind fun r => match r with
    | .nx ρ2 => forL b F ds ρ2
    | .rt z ρ2 => some (.rt z ρ2)
@[simp] def forF (fs : Rho → Option (List D × Rho)) (b : D → Rho → Option Rho) (F : Rho → Option Out) : Rho → Option Out := fun ρ => (fs ρ).bind fun p => forL b F p.1 p.2
def whlL (c : Rho → Option (Bool × Rho)) (F : Rho → Option Out) : Nat → Rho → Option Out
  | 0, _ => none
  | n + 1, ρ => (c ρ).bind fun p => if p.1 = true then (F p.2).bind fun r => (match r with
    | .nx ρ2 => whlL c F n ρ2
    | .rt z ρ2 => some (.rt z ρ2)) else some (.nx p.2)
section
variable {X : Cx} {B : Base} {tg e : Expr} {sts : List Stmt} {is : List Nat} {b : D → Rho → Option Rho} {F : Rho → Option Out} {c : Rho → Option (Bool × Rho)} {fs : Rho → Option (List D × Rho)} {pos p : Pos}
theorem ds_for (hp : PassesOwn (model X.prog X.w) X.A X.env X.xe) (hc : X.calm = true) (hi : DIE X B tg e fs) (hg : DG X B tg is b) (hb : DSs X B sts F) (hs : ∀ x, foldedSetIterable e X.env x = pure x := by intro _; rfl) : DS X B (.For tg e sts [] pos) (forF fs b F) :=
  ⟨(ps_for hp hc hi.pi hg.pg hb.ps hs).imp fun E σ H ⟨O, ρ, r, gd, e, q⟩ => by
    obtain ⟨⟨ds, ρ0⟩, e1, e2⟩ := bind_some e
    refine ⟨O, ρ, ds, ρ0, gd, e1, fun J H0 x0 ⟨G, g0, gm, ggo, gst, gy⟩ => ?_⟩
    refine ⟨fun i m σi Hi => m = ds.length - i ∧ i ≤ ds.length ∧ ∃ Oi ρi, Good B Oi σi Hi ρi ∧ Stp O σ H ρ Oi σi Hi ρi ∧ G Oi Hi ∧ forL b F (ds.drop i) ρi = some r, ⟨ds.length, by simp, Nat.zero_le _, O, ρ0, x0.good, .ext x0, g0, by simpa using e2⟩, ?_⟩
    rintro i m σi Hi ⟨rfl, hi, Oi, ρi, gi, si, Gi, ei⟩
    by_cases hlt : i < ds.length
    · have ed : ds.drop i = ds[i] :: ds.drop (i + 1) := List.drop_eq_getElem_cons hlt
      rw [ed] at ei
      obtain ⟨ρ1, e3, e4⟩ := bind_some ei
      obtain ⟨r1, e5, e6⟩ := bind_some e4
      refine .inr ⟨ggo i Oi Hi hlt Gi, fun σ' H' => i + 1 ≤ ds.length ∧ ∃ O' ρ', Good B O' σ' H' ρ' ∧ Stp O σ H ρ O' σ' H' ρ' ∧ G O' H' ∧ forL b F (ds.drop (i + 1)) ρ' = some r, fun σ' H' ⟨h1, h2⟩ => ⟨ds.length - (i + 1), by omega, rfl, h1, h2⟩, fun x H1 y => ?_⟩
      obtain ⟨d, ed2, s1, rx⟩ := gy i Oi Hi x H1 hlt gi.otrk Gi y
      have ed3 : ds[i] = d := by
        rw [List.getElem?_eq_getElem hlt] at ed2
        exact Option.some.inj ed2
      subst ed3
      refine ⟨Oi, ρi, _, ρ1, gi.same s1, rx, e3, fun σ2 g2 w2 _ _ => ⟨Oi, ρ1, r1, g2, e5, ?_⟩⟩
      have st2 : Stp O σ H ρ Oi σ2 H1 ρ1 := si.trans gd ⟨.of s1, fun _ h => .inl h, fun _ h => h, fun b h => .inl (w2 b h)⟩
      cases r1 with
      | nx ρ2 =>
        exact fun σ' H' O' s3 g3 => ⟨hlt, O', ρ2, g3, st2.trans gd s3, gm _ _ _ _ (s3.mv g2) (gm _ _ _ _ (.same s1) Gi), e6⟩
      | rt z ρ2 =>
        cases e6
        exact fun v σ' H' O' s3 g3 r3 => q v σ' H' O' (st2.trans gd s3) g3 r3
    · have en : i = ds.length := by omega
      subst en
      rw [List.drop_length] at ei
      cases ei
      exact .inl ⟨gst Oi Hi Gi, q σi Hi Oi si gi⟩⟩
theorem ds_while {n : Nat} (hp : PassesOwn (model X.prog X.w) X.A X.env X.xe) (hc : DET X B e c) (hb : DSs X B sts F) : DS X B (.While e sts [] pos) (whlL c F n) :=
  ⟨(ps_while hp hc.pt hb.ps).imp fun E σ H ⟨O, ρ, r, gd, e, q⟩ => by
    refine ⟨fun m σi Hi => ∃ Oi ρi, Good B Oi σi Hi ρi ∧ Stp O σ H ρ Oi σi Hi ρi ∧ whlL c F m ρi = some r, ⟨n, O, ρ, gd, .refl, e⟩, ?_⟩
    rintro m σi Hi ⟨Oi, ρi, gi, si, ei⟩
    cases m with
    | zero => cases ei
    | succ m =>
      obtain ⟨⟨k, ρ1⟩, e1, e2⟩ := bind_some ei
      refine ⟨Oi, ρi, k, ρ1, gi, e1, fun H1 x1 => ?_⟩
      cases k with
      | false =>
        cases e2
        exact q σi H1 Oi (si.trans gd (.ext x1)) x1.good
      | true =>
        obtain ⟨r1, e3, e4⟩ := bind_some e2
        refine ⟨fun σ' H' => ∃ O' ρ', Good B O' σ' H' ρ' ∧ Stp O σ H ρ O' σ' H' ρ' ∧ whlL c F m ρ' = some r, fun σ' H' h => ⟨m, Nat.lt_succ_self m, h⟩, Oi, ρ1, r1, x1.good, e3, ?_⟩
        have st1 := si.trans gd (.ext x1)
        cases r1 with
        | nx ρ2 => exact fun σ' H' O' s3 g3 => ⟨O', ρ2, g3, st1.trans gd s3, e4⟩
        | rt z ρ2 =>
          cases e4
          exact fun v σ' H' O' s3 g3 r3 => q v σ' H' O' (st1.trans gd s3) g3 r3⟩
end
end DL

namespace DL
open PySem PySem.Spec
open PyProof.Rows hiding St
open L2
/-! ## defs by their bodies -/
@[simp] def startR (tot : Nat) (ds : List D) : Rho := ds.map Sl.dat ++ List.replicate (tot - ds.length) Sl.nil
@[simp] def runF (n tot : Nat) (b : Rho → Option Out) : List D → Option D := fun ds => if ds.length = n then (b (startR tot ds)).bind fun r => (match r with
  | .rt d _ => some d
  | .nx _ => some .none) else none
@[simp] def bagOf : Option Sl → Option (List D)
  | some (.bag bs) => some bs
  | _ => none
@[simp] def runB (n tot : Nat) (b : Rho → Option Out) : List D → List D → Option (D × List D) := fun bs ds => if ds.length = n then (b (.bag bs :: startR (tot - 1) ds)).bind fun r => (match r with
  | .rt d ρ => (bagOf ρ[0]?).bind fun bs' => some (d, bs')
  | .nx ρ => (bagOf ρ[0]?).bind fun bs' => some (.none, bs')) else none
def spB (F : List D → List D → Option (D × List D)) : Sp := fun vs H Q _ => ∃ b ws, vs = V.ref b :: ws ∧ ∃ O us bs ds r bs', Otr O H ∧ O b ∧ H b = some (.lst us) ∧ RepL O H bs us ∧ RepL O H ds ws ∧ F bs ds = some (r, bs') ∧
  ∀ v H' us', ButB b H H' → H' b = some (.lst us') → RepL O H' bs' us' → Rep O H' r v → Q v H'
structure BFn (P : Program) (w : World) (K : PySem.W.Frag) (mg : Str → Option Value) (base : Heap) (k : Nat) (x : Str) (F : List D → List D → Option (D × List D)) : Prop where
  ex : ∃ f fd ps, FnOk P w K mg base CX0 k f fd ps (spB F) ∧ mg x = some (.ref f) ∧ PySem.W.keepIn K (.ref f) = true ∧ Binds K fd ps []
theorem start_get {O : Addr → Prop} {H : Hp} {tot : Nat} {ds : List D} {vs : List V} (r : RepL O H ds vs) (N : List Str) (hN : N.length = tot) {i : Nat} {s : Sl} (e : (startR tot ds)[i]? = some s) : (∃ d, s = .dat d ∧ ∃ v, (L2.start N vs)[i]? = some (some v) ∧ Rep O H d v) ∨ s = .nil := by
  unfold startR at e
  by_cases hi : i < ds.length
  · left
    rw [List.getElem?_append_left (by simpa using hi), List.getElem?_map, List.getElem?_eq_getElem hi] at e
    cases e
    obtain ⟨v, e1, r1⟩ := r.get (List.getElem?_eq_getElem hi)
    refine ⟨_, rfl, v, ?_, r1⟩
    unfold L2.start
    have hl := r.length
    rw [List.getElem?_append_left (by simp; omega), List.getElem?_map, e1]
    rfl
  · right
    rw [List.getElem?_append_right (by simpa using hi), List.getElem?_replicate] at e
    split at e
    · cases e; rfl
    · cases e
section
variable {P : Program} {w : World} {K : PySem.W.Frag} {mg : Str → Option Value} {base : Heap}
theorem good_start {O : Addr → Prop} {H : Hp} {tot : Nat} {ds : List D} {vs : List V} {N : List Str} (t : Otr O H) (r : RepL O H ds vs) (hN : N.length = tot) (hl : ds.length ≤ tot) : Good ⟨H, O, fun _ => False, nolam, Str.empty⟩ O (L2.start N vs) H (startR tot ds) := by
  have hv := r.length
  have no : ∀ (i : Nat) s, (startR tot ds)[i]? = some s → isOwn s = false := fun i s e => by
    rcases start_get r N hN e with ⟨d, rfl, _⟩ | rfl
    · rfl
    · rfl
  refine ⟨by unfold L2.start startR; simp; omega, FrB.start, t, fun _ h => h.elim, fun _ h => h, t, fun _ h => h, fun i s e => ?_, fun i j s t b e1 _ q _ _ _ => by rw [no i s e1] at q; cases q⟩
  rcases start_get r N hN e with ⟨d, rfl, v, h1, h2⟩ | rfl
  · exact ⟨v, h1, h2⟩
  · trivial
theorem fn_mk {x : Str} {st : Stmt} {f : Addr} {fd : FuncData} {N ps : List Str} {k n tot : Nat} {b : Rho → Option Out} (F : L2.Fun K x x st f fd) (S : FnScope N ps (defScope st)) (bi : Binds K fd ps []) (hm : mg x = some (.ref f)) (hN : N.length = tot) (hn : ps.length = n)
    (hb : ∀ (B : Base) (cdv : Value) (A : Around) (outer : List PySem.Env) (s : Shared) (H : Hp) (E : XK), Room k (A.deeper (envOfC x (defScope st) s.heap.objs.size f cdv)) → DSs (cxOf CX0 P w K mg base N x (defScope st) f cdv A outer s H E).nox B (defBody st) b) :
    Fn P w K mg base (k + 1) x (runF n tot b) := by
  have hpl : ps.length ≤ N.length := by have := congrArg List.length S.pre; rw [List.length_take] at this; omega
  refine ⟨f, fd, ps, F.ok S (fun vs H Q E h => ?_) (fun cdv A outer s H vs Q E hr h => ?_), hm, F.kp, bi⟩
  · obtain ⟨O, ds, d, t, r, e, q⟩ := h
    unfold runF at e
    split at e
    · next hl => rw [← r.length, hl, hn]
    · cases e
  · obtain ⟨O, ds, d, t, r, e, q⟩ := h
    unfold runF at e
    split at e
    · next hl =>
      obtain ⟨o, e1, e2⟩ := bind_some e
      refine ⟨_, (hb ⟨H, O, fun _ => False, nolam, Str.empty⟩ cdv A outer s H E hr).ps, O, startR tot ds, o, good_start t r hN (by omega), e1, ?_⟩
      cases o with
      | nx ρ' =>
        cases e2
        exact fun σ' H' O' s3 g3 => q _ H' (g3.frame.out fun _ z => z) (rep_none.mpr rfl)
      | rt z ρ' =>
        cases e2
        exact fun v σ' H' O' s3 g3 r3 => q v H' (g3.frame.out fun _ z => z) r3
    · cases e
theorem bfn_mk {x : Str} {st : Stmt} {f : Addr} {fd : FuncData} {N ps : List Str} {k n tot : Nat} {b : Rho → Option Out} (F : L2.Fun K x x st f fd) (S : FnScope N ps (defScope st)) (bi : Binds K fd ps []) (hm : mg x = some (.ref f)) (hN : N.length = tot) (hn : ps.length = n + 1)
    (hb : ∀ (B : Base) (cdv : Value) (A : Around) (outer : List PySem.Env) (s : Shared) (H : Hp) (E : XK), Room k (A.deeper (envOfC x (defScope st) s.heap.objs.size f cdv)) → DSs (cxOf CX0 P w K mg base N x (defScope st) f cdv A outer s H E).nox B (defBody st) b) :
    BFn P w K mg base (k + 1) x (runB n tot b) := by
  have hpl : ps.length ≤ N.length := by have := congrArg List.length S.pre; rw [List.length_take] at this; omega
  refine ⟨f, fd, ps, F.ok S (fun vs H Q E h => ?_) (fun cdv A outer s H vs Q E hr h => ?_), hm, F.kp, bi⟩
  · obtain ⟨a, ws, rfl, O, us, bs, ds, d, bs', t, oa, ha, rb, r, e, q⟩ := h
    unfold runB at e
    split at e
    · next hl => rw [List.length_cons, ← r.length, hl, hn]
    · cases e
  · obtain ⟨a, ws, rfl, O, us, bs, ds, d, bs', t, oa, ha, rb, r, e, q⟩ := h
    unfold runB at e
    split at e
    · next hl =>
      obtain ⟨o, e1, e2⟩ := bind_some e
      obtain ⟨y, N', rfl⟩ : ∃ y N', N = y :: N' := by
        cases N with
        | nil => rw [hn] at hpl; simp at hpl
        | cons y N' => exact ⟨y, N', rfl⟩
      have hN' : N'.length = tot - 1 := by rw [List.length_cons] at hN; omega
      have hst : L2.start (y :: N') (.ref a :: ws) = some (.ref a) :: L2.start N' ws := by
        unfold L2.start
        simp
      have g1 := good_start (N := N') t r hN' (by rw [List.length_cons] at hpl; omega)
      have gd : Good ⟨H, O, fun b => b = a, nolam, Str.empty⟩ O (L2.start (y :: N') (.ref a :: ws)) H (.bag bs :: startR (tot - 1) ds) := by
        rw [hst]
        have no : ∀ (i : Nat) s, (startR (tot - 1) ds)[i]? = some s → isOwn s = false := fun i s e => by
          rcases start_get r N' hN' e with ⟨d, rfl, _⟩ | rfl
          · rfl
          · rfl
        refine ⟨by simp [g1.len], FrB.start, t, fun b h => by rw [show b = a from h]; exact oa, fun _ h => h, t, fun _ h => h, fun i s e => ?_, fun i j s t b e1 e2 q1 q2 _ _ => ?_⟩
        · cases i with
          | zero =>
            simp at e; subst e
            exact ⟨a, us, rfl, rfl, oa, ha, rb⟩
          | succ i =>
            have k := g1.slots i s (by simpa using e)
            have e' : (startR (tot - 1) ds)[i]? = some s := by simpa using e
            rcases start_get r N' hN' e' with ⟨d, rfl, v, h1, h2⟩ | rfl
            · exact ⟨v, by simpa using h1, h2⟩
            · trivial
        · cases i with
          | zero =>
            cases j with
            | zero => rfl
            | succ j => rw [no j t (by simpa using e2)] at q2; cases q2
          | succ i => rw [no i s (by simpa using e1)] at q1; cases q1
      refine ⟨_, (hb ⟨H, O, fun b => b = a, nolam, Str.empty⟩ cdv A outer s H E hr).ps, O, _, o, gd, e1, ?_⟩
      have fin : ∀ {ρ' : Rho} {σ' : St} {H' : Hp} {O' : Addr → Prop} {z : D} {v : V} {cs : List D}, bagOf ρ'[0]? = some cs → Good ⟨H, O, fun b => b = a, nolam, Str.empty⟩ O' σ' H' ρ' → (z, cs) = (d, bs') → Rep O H' z v → Q v H' := fun {ρ' σ' H' O' z v cs} e3 g3 e4 r3 => by
        cases e4
        unfold bagOf at e3
        split at e3
        · next e5 =>
          cases e3
          obtain ⟨a', us', h1, h2, h3, h4, h5⟩ := g3.slots 0 _ e5
          cases (show a' = a from h2)
          exact q v H' us' ⟨fun c o hc e tt => g3.frame.keep c o e hc tt, g3.frame.tb⟩ h4 (h5.less g3.osub) r3
        · cases e3
      cases o with
      | nx ρ' =>
        obtain ⟨cs, e3, e4⟩ := bind_some e2
        exact fun σ' H' O' s3 g3 => fin e3 g3 (Option.some.inj e4) (rep_none.mpr rfl)
      | rt z ρ' =>
        obtain ⟨cs, e3, e4⟩ := bind_some e2
        exact fun v σ' H' O' s3 g3 r3 => fin e3 g3 (Option.some.inj e4) r3
    · cases e
end
/-! ## a call that draws -/
section
variable {X : Cx} {B : Base} {m : Md} {a b c e : Expr} {es : List Expr} {g ga gb : Rho → Option D} {f : Rho → Option (D × Rho)} {gs : Rho → Option (List D)} {fs : Rho → Option (List D × Rho)} {pos p p' : Pos}
theorem de_drw {x y : Str} {i k j : Nat} {F : List D → List D → Option (D × List D)} (hF : BFn X.prog X.w X.K X.mg X.base k x F) (hr : Room j X.A) (hk : k ≤ j) (hN : X.N[i]? = some y) (ha : DEA X B es fs) (hg : Gl X x := by rfl) (hdb : (x == ("__debug__" : Str)) = false := by decide)
    (hv : Vis X.env.scope y := by first | exact Or.inl rfl | exact Or.inr (Or.inl rfl) | exact Or.inr (Or.inr rfl)) (hd : (y == ("__debug__" : Str)) = false := by decide) (hcd : (y == ("__classdict__" : Str)) = false := by decide)
    (he : starEach (.Name y p' :: es) X.env = (false, eval (.Name y p') X.env) :: starEach es X.env := by rfl) (hpl : (backTo pos (starEach es X.env)).any (·.1) = false := by rfl) : DE X B (.Call (.Name x p) (.Name y p' :: es) [] pos) (drwE i fs F) := by
  obtain ⟨fa, fd, ps, G, hm, kp, bi⟩ := hF.ex
  refine ⟨(pe_call G (hr.mono hk) hg hm kp bi .nil pass0 (pa_cons (pv i hN hv hd hcd) ha.pa he) hdb he hpl).imp fun σ H Q ⟨O, ρ, d, ρ', gd, e, q⟩ => ?_⟩
  obtain ⟨t0, e1, e2⟩ := bind_some e
  obtain ⟨es0, e3, e4⟩ := bind_some e2
  obtain ⟨⟨ds, ρ1⟩, e5, e6⟩ := bind_some e4
  obtain ⟨t, e7, e8⟩ := bind_some e6
  obtain ⟨bs, e9, e10⟩ := bind_some e8
  obtain ⟨⟨r, bs'⟩, e11, e12⟩ := bind_some e10
  cases e12
  obtain ⟨a, us, h1, _⟩ := gd.ownAt e1 e3
  refine ⟨_, h1, O, ρ, ds, ρ1, gd, e5, fun ws H1 x1 r1 => ?_⟩
  show spB F ((.ref a :: ws) ++ []) H1 Q E0
  rw [List.append_nil]
  obtain ⟨a', us1, h1', h2, h3, h4⟩ := x1.good.ownAt e7 e9
  rw [h1] at h1'; cases h1'
  exact ⟨a, ws, rfl, O, us1, bs, ds, r, bs', x1.good.otr .str, h2, h3, h4, r1, e11, fun v H2 us2 k1 k2 k3 k4 => q v H2 (x1.trans (x1.good.put e7 e9 h1 k1 k2 k3)) k4⟩
/-! ## several targets -/
@[simp] def asgF (f : Rho → Option (D × Rho)) (b : D → Rho → Option Rho) : Rho → Option Out := fun ρ => (f ρ).bind fun p => (b p.1 p.2).bind fun ρ2 => some (.nx ρ2)
@[simp] def two : List D → Option (D × D)
  | [a, b] => some (a, b)
  | _ => none
@[simp] def three : List D → Option (D × D × D)
  | [a, b, c] => some (a, b, c)
  | _ => none
theorem two_some {ds : List D} {p : D × D} (h : two ds = some p) : ds = [p.1, p.2] := by
  unfold two at h
  split at h
  · cases h; rfl
  · cases h
theorem three_some {ds : List D} {p : D × D × D} (h : three ds = some p) : ds = [p.1, p.2.1, p.2.2] := by
  unfold three at h
  split at h
  · cases h; rfl
  · cases h
@[simp] def parF2 (i j : Nat) (fs : Rho → Option (List D × Rho)) : Rho → Option Out := fun ρ => (fs ρ).bind fun p => (two p.1).bind fun q => some (.nx ((p.2.set i (.dat q.1)).set j (.dat q.2)))
@[simp] def parF3 (i j k : Nat) (fs : Rho → Option (List D × Rho)) : Rho → Option Out := fun ρ => (fs ρ).bind fun p => (three p.1).bind fun q => some (.nx (((p.2.set i (.dat q.1)).set j (.dat q.2.1)).set k (.dat q.2.2)))
@[simp] def parDO (i j : Nat) (g : Rho → Option D) : Rho → Option Out := fun ρ => (g ρ).bind fun d => some (.nx ((ρ.set i (.dat d)).set j (.own [])))
@[simp] def parDOO (i j k : Nat) (g : Rho → Option D) : Rho → Option Out := fun ρ => (g ρ).bind fun d => some (.nx (((ρ.set i (.dat d)).set j (.own [])).set k (.own [])))
theorem ds_asg {tg : Expr} {is : List Nat} {b : D → Rho → Option Rho} (he : DE X B e f) (hg : DG X B tg is b) (hs : swapsWithSole [tg] e pos.line X.env = pure false := by rfl) (hw : swappedStores [tg] e X.env = pure none := by rfl)
    (h1 : (assignEach [tg] X.env).map (·.2) = [assign tg X.env] := by rfl) : DS X B (.Assign [tg] e pos) (asgF f b) := ⟨(ps_asg he.pe hg.pg hs hw h1).imp fun E σ H ⟨O, ρ, r, gd, e, q⟩ => by
  obtain ⟨⟨d, ρ1⟩, e1, e2⟩ := bind_some e
  obtain ⟨ρ2, e3, e4⟩ := bind_some e2
  cases e4
  refine ⟨O, ρ, d, ρ1, gd, e1, fun v H1 s1 r1 => ⟨O, ρ1, d, ρ2, s1.good, r1, e3, fun σ2 g2 w2 _ _ => ?_⟩⟩
  exact q σ2 H1 O ⟨s1.keep, fun _ h => .inl h, fun _ h => h, fun c h => .inl (s1.w c (w2 c h))⟩ g2⟩
section
variable {i j l : Nat} {x y z : Str} {px py pz pt : Pos} {kt k2 pt2}
theorem ds_par (hc : X.calm = true) (hN : X.N.Nodup) (hi : X.N[i]? = some x) (hj : X.N[j]? = some y) (hij : i ≠ j) (hx : X.env.scope.names.lookup x = some .local) (hy : X.env.scope.names.lookup y = some .local) (ha : DEA X B [a, b] fs)
    (hw : swappedStores [.Tuple [.Name x px, .Name y py] kt pt] (.Tuple [a, b] k2 pt2) X.env = pure (some [x, y])) (hs : swapsWithSole [.Tuple [.Name x px, .Name y py] kt pt] (.Tuple [a, b] k2 pt2) pos.line X.env = pure false := by rfl) :
    DS X B (.Assign [.Tuple [.Name x px, .Name y py] kt pt] (.Tuple [a, b] k2 pt2) pos) (parF2 i j fs) := ⟨(ps_par hc hN hi hj hij hx hy ha.pa hw hs).imp fun E σ H ⟨O, ρ, r, gd, e, q⟩ => by
  obtain ⟨⟨ds, ρ1⟩, e1, e2⟩ := bind_some e
  obtain ⟨⟨d1, d2⟩, e3, e4⟩ := bind_some e2
  cases two_some e3
  cases e4
  refine ⟨O, ρ, _, ρ1, gd, e1, fun vs H1 s1 r1 => ?_⟩
  simp only [RepL] at r1
  obtain ⟨v1, ws, rfl, q1, v2, ws2, rfl, q2, rfl⟩ := r1
  obtain ⟨g2, w2⟩ := s1.good.set (i := i) q1
  obtain ⟨g3, w3⟩ := g2.set (i := j) q2
  exact ⟨v1, v2, rfl, q _ H1 O ⟨s1.keep, fun _ h => .inl h, fun _ h => h, fun c h => .inl (s1.w c (w2 c (w3 c h)))⟩ g3⟩⟩
theorem ds_par3 (hc : X.calm = true) (hN : X.N.Nodup) (hi : X.N[i]? = some x) (hj : X.N[j]? = some y) (hl : X.N[l]? = some z) (hij : i ≠ j) (hil : i ≠ l) (hjl : j ≠ l) (hx : X.env.scope.names.lookup x = some .local) (hy : X.env.scope.names.lookup y = some .local) (hz : X.env.scope.names.lookup z = some .local) (ha : DEA X B [a, b, c] fs)
    (hw : swappedStores [.Tuple [.Name x px, .Name y py, .Name z pz] kt pt] (.Tuple [a, b, c] k2 pt2) X.env = pure (some [x, y, z])) (hs : swapsWithSole [.Tuple [.Name x px, .Name y py, .Name z pz] kt pt] (.Tuple [a, b, c] k2 pt2) pos.line X.env = pure false := by rfl) :
    DS X B (.Assign [.Tuple [.Name x px, .Name y py, .Name z pz] kt pt] (.Tuple [a, b, c] k2 pt2) pos) (parF3 i j l fs) := ⟨(L2.ps_par3 hc hN hi hj hl hij hil hjl hx hy hz ha.pa hw hs).imp fun E σ H ⟨O, ρ, r, gd, e, q⟩ => by
  obtain ⟨⟨ds, ρ1⟩, e1, e2⟩ := bind_some e
  obtain ⟨⟨d1, d2, d3⟩, e3, e4⟩ := bind_some e2
  cases three_some e3
  cases e4
  refine ⟨O, ρ, _, ρ1, gd, e1, fun vs H1 s1 r1 => ?_⟩
  simp only [RepL] at r1
  obtain ⟨v1, ws, rfl, q1, v2, ws2, rfl, q2, v3, ws3, rfl, q3, rfl⟩ := r1
  obtain ⟨g2, w2⟩ := s1.good.set (i := i) q1
  obtain ⟨g3, w3⟩ := g2.set (i := j) q2
  obtain ⟨g4, w4⟩ := g3.set (i := l) q3
  exact ⟨v1, v2, v3, rfl, q _ H1 O ⟨s1.keep, fun _ h => .inl h, fun _ h => h, fun c h => .inl (s1.w c (w2 c (w3 c (w4 c h))))⟩ g4⟩⟩
theorem own_nil {O : Addr → Prop} {H : Hp} {p : Addr} (hp : H p = none) : RepL (fun b => O b ∨ b = p) (upd H p (.lst [])) [] [] := .nil
theorem ds_parDO {lp : Pos} (hc : X.calm = true) (hN : X.N.Nodup) (hi : X.N[i]? = some x) (hj : X.N[j]? = some y) (hij : i ≠ j) (hx : X.env.scope.names.lookup x = some .local) (hy : X.env.scope.names.lookup y = some .local) (ha : DP X B .str a g)
    (hw : swappedStores [.Tuple [.Name x px, .Name y py] kt pt] (.Tuple [a, .List [] lp] k2 pt2) X.env = pure (some [x, y])) (hs : swapsWithSole [.Tuple [.Name x px, .Name y py] kt pt] (.Tuple [a, .List [] lp] k2 pt2) pos.line X.env = pure false := by rfl)
    (hs1 : starEach [a, .List [] lp] X.env = (false, eval a X.env) :: starEach [.List [] lp] X.env := by rfl) :
    DS X B (.Assign [.Tuple [.Name x px, .Name y py] kt pt] (.Tuple [a, .List [] lp] k2 pt2) pos) (parDO i j g) := ⟨(ps_par hc hN hi hj hij hx hy (pa_cons ha.pe (pa_cons (pe_lst pa_nil) pa_nil) hs1) hw hs).imp fun E σ H ⟨O, ρ, r, gd, e, q⟩ => by
  obtain ⟨d, e1, e2⟩ := bind_some e
  cases e2
  refine ⟨O, ρ, d, gd, e1, fun v H1 s1 r1 => ⟨Nat.zero_le _, fun p hp => ⟨v, .ref p, rfl, ?_⟩⟩⟩
  obtain ⟨g2, w2⟩ := (gd.same s1).set (i := i) r1
  obtain ⟨g3, s3⟩ := g2.setOwn (i := j) (ds := []) (same_upd hp) hp upd_same (own_nil hp)
  exact q _ _ _ (Stp.trans gd ⟨.of s1, fun _ h => .inl h, fun _ h => h, fun c h => .inl (w2 c h)⟩ s3) g3⟩
theorem ds_parDOO {lp lp2 : Pos} (hc : X.calm = true) (hN : X.N.Nodup) (hi : X.N[i]? = some x) (hj : X.N[j]? = some y) (hl : X.N[l]? = some z) (hij : i ≠ j) (hil : i ≠ l) (hjl : j ≠ l) (hx : X.env.scope.names.lookup x = some .local) (hy : X.env.scope.names.lookup y = some .local) (hz : X.env.scope.names.lookup z = some .local) (ha : DP X B .str a g)
    (hw : swappedStores [.Tuple [.Name x px, .Name y py, .Name z pz] kt pt] (.Tuple [a, .List [] lp, .List [] lp2] k2 pt2) X.env = pure (some [x, y, z])) (hs : swapsWithSole [.Tuple [.Name x px, .Name y py, .Name z pz] kt pt] (.Tuple [a, .List [] lp, .List [] lp2] k2 pt2) pos.line X.env = pure false := by rfl)
    (hs1 : starEach [a, .List [] lp, .List [] lp2] X.env = (false, eval a X.env) :: starEach [.List [] lp, .List [] lp2] X.env := by rfl) :
    DS X B (.Assign [.Tuple [.Name x px, .Name y py, .Name z pz] kt pt] (.Tuple [a, .List [] lp, .List [] lp2] k2 pt2) pos) (parDOO i j l g) := ⟨(L2.ps_par3 hc hN hi hj hl hij hil hjl hx hy hz (pa_cons ha.pe (pa_cons (pe_lst pa_nil) (pa_cons (pe_lst pa_nil) pa_nil)) hs1) hw hs).imp fun E σ H ⟨O, ρ, r, gd, e, q⟩ => by
  obtain ⟨d, e1, e2⟩ := bind_some e
  cases e2
  refine ⟨O, ρ, d, gd, e1, fun v H1 s1 r1 => ⟨Nat.zero_le _, fun p hp => ⟨Nat.zero_le _, fun p2 hp2 => ⟨v, .ref p, .ref p2, rfl, ?_⟩⟩⟩⟩
  obtain ⟨g2, w2⟩ := (gd.same s1).set (i := i) r1
  obtain ⟨g3, s3⟩ := g2.setOwn (i := j) (ds := []) (same_upd hp) hp upd_same (own_nil hp)
  obtain ⟨g4, s4⟩ := g3.setOwn (i := l) (ds := []) (same_upd hp2) hp2 upd_same (own_nil hp2)
  exact q _ _ _ (Stp.trans gd (Stp.trans gd ⟨.of s1, fun _ h => .inl h, fun _ h => h, fun c h => .inl (w2 c h)⟩ s3) s4) g4⟩
end
end
end DL

namespace DL
open PySem PySem.Spec
open PyProof.Rows hiding St
open L2
/-! ## the sources of draws -/
def wellL (c t : Int) : List Int := if c ≥ 10 ^ 18 then [c - 10 ^ 18, c % 2305843009213693951, t] else [0, c % 2305843009213693951, t]
def cellsOf (ns : List Int) (n : Nat) : List Int := ns.take n ++ [0]
def bagsL (k : Nat) : List Int → List (List Int)
  | [] => []
  | c :: cs => wellL c (977 * (k : Int)) :: bagsL (k + 1) cs
def intsD (ns : List Int) : List D := ns.map PyData.int
theorem bagsL_get : ∀ (cs : List Int) (k j : Nat), (bagsL k cs)[j]? = (cs[j]?).map fun c => wellL c (977 * ((k + j : Nat) : Int))
  | [], k, j => by simp [bagsL]
  | c :: cs, k, 0 => by simp [bagsL]
  | c :: cs, k, j + 1 => by
    simp only [bagsL, List.getElem?_cons_succ]
    rw [bagsL_get cs (k + 1) j]
    congr 1
    funext c
    congr 2
    omega
theorem bagsL_len : ∀ (cs : List Int) (k : Nat), (bagsL k cs).length = cs.length
  | [], k => rfl
  | c :: cs, k => by simp [bagsL, bagsL_len cs (k + 1)]
def spBags (K : PySem.W.Frag) : Sp := fun vs H Q _ => ∃ (a : Addr) (ns : List Int) (n : Nat), vs = [.ref a, .int n] ∧ SqL K H a (ns.map V.int) ∧ ns.length ≤ 63 ∧ n ≤ 63 ∧
  ∀ (p : Addr) (bs : List Addr) (H' : Hp), Same H H' → H p = none → H' p = some (.lst (bs.map V.ref)) → bs.length = (cellsOf ns n).length → bs.Nodup → p ∉ bs →
    (∀ (j : Nat) b c, bs[j]? = some b → (bagsL 0 (cellsOf ns n))[j]? = some c → H b = none ∧ H' b = some (.lst (c.map V.int))) → Q (.ref p) H'
theorem repL_ints {O : Addr → Prop} {H : Hp} : ∀ ns : List Int, RepL O H (intsD ns) (ns.map V.int)
  | [] => .nil
  | n :: ns => .cons (rep_int.mpr rfl) (repL_ints ns)
def lawL (i : Nat) (F : Rho → Option Out) : List (List Int) → Rho → Option Out
  | [], ρ => some (.nx ρ)
  | c :: cs, ρ => (F (ρ.set i (.own (intsD c)))).bind fun r => match r with
    | .nx ρ2 => lawL i F cs ρ2
    | .rt z ρ2 => some (.rt z ρ2)
def lawF (i l n : Nat) (a : Addr) (ns : List Int) (F : Rho → Option Out) : Rho → Option Out := fun ρ => match ρ[l]? with
  | some (.raw v) => if v = .ref a then lawL i F (bagsL 0 (cellsOf ns n)) ρ else none
  | _ => none
section
variable {B : Base} {O : Addr → Prop} {σ : St} {H H' : Hp} {ρ : Rho}
theorem Good.more (g : Good B O σ H ρ) {bs : List Addr} (s : Same H H') (h1 : ∀ b ∈ bs, H b = Option.none) (h2 : ∀ b ∈ bs, H' b ≠ Option.none) : Good B (fun b => O b ∨ b ∈ bs) σ H' ρ := by
  have mv : Mv O H (fun b => O b ∨ b ∈ bs) H' := ⟨fun b o e _ n => s.keep b o e n, fun b h => h.elim .inl fun z => .inr (h1 b z)⟩
  refine ⟨g.len, g.frame.same s, g.o0, g.r0, fun b h => .inl (g.osub b h), fun b h => h.elim (fun z => s.ne (g.otrk b z)) (h2 b), fun b h => s.ne (g.h0 b h), fun i t e => ?_, g.sep⟩
  have k := g.slots i t e
  cases t with
  | nil => trivial
  | dat d => exact SlOk.mv mv rfl k
  | own ds => obtain ⟨a, vs, e, h1, h2, h3, h4, r⟩ := k; exact ⟨a, vs, e, .inl h1, h2, h3, s a _ h4, RepL.mv mv _ _ r⟩
  | bag ds => obtain ⟨a, vs, e, h1, h2, h4, r⟩ := k; exact ⟨a, vs, e, h1, .inl h2, s a _ h4, RepL.mv mv _ _ r⟩
  | raw v => exact k
  | lam ks => exact SlOk.mv mv rfl k
  | doc C x l rl sts => exact SlOk.mvD mv .inl (fun us e => s.keep l _ e) k
theorem Good.adopt (g : Good B O σ H ρ) {i : Nat} {a : Addr} {ds : List D} {vs : List V} (h1 : O a) (h2 : ¬ B.O0 a) (h3 : B.H0 a = Option.none) (h4 : H a = some (.lst vs)) (r : RepL O H ds vs) (nw : ¬ Wof σ ρ a) :
    Good B O (σ.set i (some (.ref a))) H (ρ.set i (.own ds)) ∧ ∀ b, Wof (σ.set i (some (.ref a))) (ρ.set i (.own ds)) b → Wof σ ρ b ∨ b = a := by
  have lt : ∀ {s : Sl}, (ρ.set i (.own ds))[i]? = some s → i < ρ.length := fun e => by
    by_cases hl : i < ρ.length
    · exact hl
    · rw [List.getElem?_eq_none (by simpa using hl)] at e; cases e
  refine ⟨⟨by simp [g.len], g.frame, g.o0, g.r0, g.osub, g.otrk, g.h0, fun j t e => ?_, fun j k t u b e1 e2 q1 q2 e3 e4 => ?_⟩, fun b ⟨j, t, e, q, e3⟩ => ?_⟩
  · by_cases hj : i = j
    · subst hj
      have hl := lt e
      rw [List.getElem?_set_self hl] at e
      cases e
      rw [List.getElem?_set_self (by rw [g.len]; exact hl)]
      exact ⟨a, vs, rfl, h1, h2, h3, h4, r⟩
    · rw [get_set_ne hj] at e
      rw [get_set_ne hj]
      exact g.slots j t e
  · by_cases hj : i = j
    · by_cases hk : i = k
      · rw [← hj, ← hk]
      · subst hj
        rw [get_set_ne hk] at e2 e4
        have hl := lt e1
        rw [List.getElem?_set_self hl] at e1
        cases e1
        rw [List.getElem?_set_self (by rw [g.len]; exact hl)] at e3
        cases e3
        exact absurd ⟨k, u, e2, q2, e4⟩ nw
    · by_cases hk : i = k
      · subst hk
        rw [get_set_ne hj] at e1 e3
        have hl := lt e2
        rw [List.getElem?_set_self hl] at e2
        cases e2
        rw [List.getElem?_set_self (by rw [g.len]; exact hl)] at e4
        cases e4
        exact absurd ⟨j, t, e1, q1, e3⟩ nw
      · rw [get_set_ne hj] at e1 e3
        rw [get_set_ne hk] at e2 e4
        exact g.sep j k t u b e1 e2 q1 q2 e3 e4
  · by_cases hj : i = j
    · subst hj
      have hl := lt e
      rw [List.getElem?_set_self hl] at e
      cases e
      rw [List.getElem?_set_self (by rw [g.len]; exact hl)] at e3
      cases e3
      exact .inr rfl
    · rw [get_set_ne hj] at e e3
      exact .inl ⟨j, t, e, q, e3⟩
end
structure BagsFn (P : Program) (w : World) (K : PySem.W.Frag) (mg : Str → Option Value) (base : Heap) (k : Nat) : Prop where
  ex : ∃ f fd ps, FnOk P w K mg base CX0 k f fd ps (spBags K) ∧ mg "_law_bags" = some (.ref f) ∧ PySem.W.keepIn K (.ref f) = true ∧ Binds K fd ps []
section
variable {X : Cx} {B : Base} {sts : List Stmt} {F : Rho → Option Out}
theorem ds_law {i l n k j : Nat} {a : Addr} {ns : List Int} {x y : Str} {px py pn pc pos p : Pos} {jn} (hb : BagsFn X.prog X.w X.K X.mg X.base k) (hr : Room j X.A) (hk : k ≤ j) (hR : ∀ b, ¬ B.R b) (hO : ∀ b, ¬ B.O0 b) (hS : SqL X.K B.H0 a (ns.map V.int)) (hns : ns.length ≤ 63) (hn : n ≤ 63)
    (hp : PassesOwn (model X.prog X.w) X.A X.env X.xe) (hc : X.calm = true) (hN : X.N.Nodup) (hi : X.N[i]? = some x) (hx : Loc X.env.scope x) (hl : X.N[l]? = some y) (hF : DSs X B sts F)
    (hg : Gl X "_law_bags" := by rfl) (hf : X.fn x = true ∨ X.env.scope.names.lookup x = some .local := by first | exact .inl rfl | exact .inr rfl | assumption)
    (hv : Vis X.env.scope y := by first | exact Or.inl rfl | exact Or.inr (Or.inl rfl) | exact Or.inr (Or.inr rfl)) (hd : (y == ("__debug__" : Str)) = false := by decide) (hcd : (y == ("__classdict__" : Str)) = false := by decide)
    (hs1 : starEach [.Name y py, .Constant (.int (n : Int)) jn pn] X.env = (false, eval (.Name y py) X.env) :: starEach [.Constant (.int (n : Int)) jn pn] X.env := by rfl) (hs2 : starEach [.Constant (.int (n : Int)) jn pn] X.env = (false, eval (.Constant (.int (n : Int)) jn pn) X.env) :: starEach [] X.env := by rfl)
    (hpl : (backTo pc (starEach [.Constant (.int (n : Int)) jn pn] X.env)).any (·.1) = false := by rfl)
    (hfs : ∀ z, foldedSetIterable (.Call (.Name "_law_bags" p) [.Name y py, .Constant (.int (n : Int)) jn pn] [] pc) X.env z = pure z := by intro _; rfl) :
    DS X B (.For (.Name x px) (.Call (.Name "_law_bags" p) [.Name y py, .Constant (.int (n : Int)) jn pn] [] pc) sts [] pos) (lawF i l n a ns F) := by
  obtain ⟨fb, fd, ps, G, hm, kp, bi⟩ := hb.ex
  refine ⟨(ps_for hp hc (pi_list (pe_call G (hr.mono hk) hg hm kp bi .nil pass0 (pa_cons (pv l hl hv hd hcd) (pa_cons pe_int pa_nil hs2) hs1) (by decide) hs1 hpl)) (pg_name hN hi hx hf) hF.ps hfs).imp fun E σ H ⟨O, ρ, r, gd, e, q⟩ => ?_⟩
  unfold lawF at e
  split at e
  · next v e1 =>
    split at e
    · next ev =>
      subst ev
      have hv1 : σ[l]? = some (some (.ref a)) := gd.slots l _ e1
      have sH0 : Same B.H0 H := gd.frame.out hR
      refine ⟨.ref a, hv1, ?_⟩
      simp only [tCons, tC, tNil, List.append_nil]
      refine ⟨a, ns, n, rfl, sH0.seq hS, hns, hn, fun p bs H1 s1 hp0 hp1 hbl hnd hpb hbs => ?_⟩
      refine ⟨p, rfl, ⟨_, .of hp1⟩, ?_⟩
      have hcl : (bagsL 0 (cellsOf ns n)).length = bs.length := by rw [bagsL_len, hbl]
      have getc : ∀ (j : Nat), j < bs.length → ∃ b c, bs[j]? = some b ∧ (bagsL 0 (cellsOf ns n))[j]? = some c ∧ H b = none ∧ H1 b = some (.lst (c.map V.int)) := fun j hj => by
        refine ⟨bs[j], (bagsL 0 (cellsOf ns n))[j]'(by omega), List.getElem?_eq_getElem hj, List.getElem?_eq_getElem (by omega), ?_⟩
        exact hbs j _ _ (List.getElem?_eq_getElem hj) (List.getElem?_eq_getElem (by omega))
      have fresh : ∀ b ∈ bs, H b = none ∧ ∃ c : List Int, H1 b = some (.lst (c.map V.int)) := fun b hb => by
        obtain ⟨j, hj, ej⟩ := List.mem_iff_getElem.mp hb
        obtain ⟨b', c, e1, _, h1, h2⟩ := getc j hj
        rw [List.getElem?_eq_getElem hj, ej] at e1
        cases e1
        exact ⟨h1, c, h2⟩
      have g1 : Good B (fun b => O b ∨ b ∈ bs) σ H1 ρ := gd.more s1 (fun b hb => (fresh b hb).1) fun b hb => by
        obtain ⟨c, h⟩ := (fresh b hb).2
        exact some_ne h
      have nw : ∀ b, H b = none → ¬ Wof σ ρ b := fun b hb z => by
        obtain ⟨_, vs, h⟩ := gd.wof z
        rw [hb] at h; cases h
      refine ⟨fun i' m σi Hi => m = bs.length - i' ∧ i' ≤ bs.length ∧ ∃ Oi ρi, Good B Oi σi Hi ρi ∧ Stp O σ H ρ Oi σi Hi ρi ∧ (∀ b ∈ bs, Oi b) ∧ Hi p = some (.lst (bs.map V.ref)) ∧ ¬ Oi p ∧
          (∀ (j : Nat) b c, i' ≤ j → bs[j]? = some b → (bagsL 0 (cellsOf ns n))[j]? = some c → Hi b = some (.lst (c.map V.int)) ∧ ¬ Wof σi ρi b) ∧ lawL i F ((bagsL 0 (cellsOf ns n)).drop i') ρi = some r,
        ⟨bs.length, by simp, Nat.zero_le _, _, ρ, g1, ⟨.of s1, fun b h => h.elim .inl fun z => .inr (fresh b z).1, fun b h => .inl h, fun b h => .inl h⟩, fun b hb => .inr hb, hp1, fun z => ?_, fun j b c _ e2 e3 => ⟨(hbs j b c e2 e3).2, nw b (hbs j b c e2 e3).1⟩, by simpa using e⟩, ?_⟩
      · rcases z with z | z
        · exact gd.otrk p z hp0
        · exact hpb z
      rintro i' m σi Hi ⟨rfl, hle, Oi, ρi, gi, si, hOi, hpi, hnp, hbi, ei⟩
      have npw : ¬ Wof σi ρi p := fun z => hnp (gi.wof z).1
      by_cases hlt : i' < bs.length
      · obtain ⟨b, c, eb, ec, hb0, _⟩ := getc i' hlt
        obtain ⟨hb1, hb2⟩ := hbi i' b c (Nat.le_refl _) eb ec
        have hlc : i' < (bagsL 0 (cellsOf ns n)).length := by omega
        have ec' : (bagsL 0 (cellsOf ns n))[i'] = c := by
          rw [List.getElem?_eq_getElem hlc] at ec
          exact Option.some.inj ec
        rw [List.drop_eq_getElem_cons hlc, ec'] at ei
        obtain ⟨r1, e3, e4⟩ := bind_some ei
        have hbm : b ∈ bs := List.mem_of_getElem? eb
        refine .inr ⟨⟨bs.map V.ref, .ref b, .of hpi, by rw [List.getElem?_map, eb]; rfl⟩, fun σ' H' => i' + 1 ≤ bs.length ∧ ∃ O' ρ', Good B O' σ' H' ρ' ∧ Stp O σ H ρ O' σ' H' ρ' ∧ (∀ b ∈ bs, O' b) ∧ H' p = some (.lst (bs.map V.ref)) ∧ ¬ O' p ∧
            (∀ (j : Nat) b c, i' + 1 ≤ j → bs[j]? = some b → (bagsL 0 (cellsOf ns n))[j]? = some c → H' b = some (.lst (c.map V.int)) ∧ ¬ Wof σ' ρ' b) ∧ lawL i F ((bagsL 0 (cellsOf ns n)).drop (i' + 1)) ρ' = some r,
          fun σ' H' ⟨h1, h2⟩ => ⟨bs.length - (i' + 1), by omega, rfl, h1, h2⟩, fun xv H2 yv => ?_⟩
        obtain ⟨rfl, yv⟩ := yv
        have exv : xv = .ref b := by
          have := yv _ (.of hpi)
          rw [List.getElem?_map, eb] at this
          exact (Option.some.inj this).symm
        subst exv
        have hB0 : B.H0 b = none := by
          cases e : B.H0 b with
          | none => rfl
          | some o =>
            exact absurd hb0 (sH0.ne (some_ne e))
        obtain ⟨g2, w2⟩ := gi.adopt (i := i) (hOi b hbm) (hO b) hB0 hb1 (repL_ints c) hb2
        refine ⟨Oi, _, r1, g2, e3, ?_⟩
        have st2 : Stp O σ H ρ Oi (σi.set i (some (.ref b))) H2 (ρi.set i (.own (intsD c))) := ⟨si.keep, si.out, si.grow, fun c' h => (w2 c' h).elim (fun z => si.w c' z) fun z => .inr (by rw [z]; exact hb0)⟩
        cases r1 with
        | nx ρ2 =>
          intro σ' H' O' s3 g3
          have hpb' : p ≠ b := fun z => hpb (by rw [z]; exact hbm)
          have npw2 : ¬ Wof (σi.set i (some (.ref b))) (ρi.set i (.own (intsD c))) p := fun z => (w2 p z).elim npw hpb'
          have pk := s3.keep.keep p _ hpi npw2
          refine ⟨hlt, O', ρ2, g3, st2.trans gd s3, fun b' hb' => ?_, pk, fun z => ?_, fun j b' c' hj eb' ec2 => ?_, e4⟩
          · exact s3.grow b' (hOi b' hb')
          · rcases s3.out p z with z | z
            · exact hnp z
            · rw [hpi] at z; cases z
          · have hne : b' ≠ b := fun z => by
              subst z
              have h1 := (List.getElem?_eq_some_iff.mp eb').1
              have h2 := (List.getElem?_eq_some_iff.mp eb').2
              have h3 := (List.getElem?_eq_some_iff.mp eb).2
              have : i' = j := (List.getElem_inj hnd).mp (h3.trans h2.symm)
              omega
            obtain ⟨k1, k2⟩ := hbi j b' c' (by omega) eb' ec2
            have nw2 : ¬ Wof (σi.set i (some (.ref b))) (ρi.set i (.own (intsD c))) b' := fun z => (w2 b' z).elim k2 hne
            refine ⟨s3.keep.keep b' _ k1 nw2, fun z => ?_⟩
            rcases s3.w b' z with z | z
            · exact nw2 z
            · rw [k1] at z; cases z
        | rt z ρ2 =>
          cases e4
          exact fun v σ' H' O' s3 g3 r3 => q v σ' H' O' (st2.trans gd s3) g3 r3
      · have en : i' = bs.length := by omega
        subst en
        rw [← hcl, List.drop_length] at ei
        cases ei
        exact .inl ⟨⟨_, .of hpi, by simp⟩, q σi Hi Oi si gi⟩
    · cases e
  · cases e
end
end DL

namespace DL
open PySem PySem.Spec
open PyProof.Rows hiding St
open L2
theorem cut_take (xs : List V) (n : Nat) : cutV xs none (some (n : Int)) = xs.take n := by
  unfold cutV
  rw [HT.sIx_none, HT.sIx_nat]
  simp only [List.drop_zero, Nat.sub_zero]
  rcases Nat.le_total n xs.length with h | h
  · rw [Nat.min_eq_left h]
  · rw [Nat.min_eq_right h, List.take_of_length_le (Nat.le_refl _), List.take_of_length_le h]
theorem repL_ints_iff {O : Addr → Prop} {H : Hp} : ∀ {ns : List Int} {vs : List V}, RepL O H (intsD ns) vs → vs = ns.map V.int
  | [], vs, h => by simpa [intsD, RepL] using h
  | n :: ns, vs, h => by
    have h' : ∃ v ws, vs = v :: ws ∧ Rep O H (.int n) v ∧ RepL O H (intsD ns) ws := by
      simpa only [intsD, List.map_cons, RepL] using h
    obtain ⟨v, ws, rfl, h1, h2⟩ := h'
    rw [rep_int.mp h1, repL_ints_iff h2]
    rfl
theorem bags_read {K : PySem.W.Frag} {F : List D → Option D} (hw : ∀ c t, F [.int c, .int t] = some (.list (intsD (wellL c t)))) {vs : List V} {H : Hp} {Q : VK} {E : XK} (h : spBags K vs H Q E) {D : Ends} (hD : D.rt = Q) :
    tRet (tLc (iEnum K (tCons (tOp (rAddA K) (tSl (rSlL K) (tVar 0) tNoPart (tPart (tVar 1))) (tLst (tCons (tC (.int 0)) tNil))) tNil)) (gTup K 2 (gCons (gName 2) (gCons (gName 3) gNil))) tYes
      (tCall (spP F) [] E0 (tCons (tVar 3) (tCons (tOp (rI CMul fun i j => .int (i * j)) (tC (.int 977)) (tVar 2)) tNil))) [2, 3]) D (vs.map some ++ [none, none]) H := by
  obtain ⟨a, ns, n, rfl, hS, hns, hn, q⟩ := h
  subst hD
  refine ⟨.ref a, rfl, .int n, rfl, n, rfl, a, ns.map V.int, rfl, hS, fun p1 hp1 => ?_⟩
  refine ⟨(by show 1 ≤ sizeLine; rw [sizeLine_eq]; decide), fun p2 hp2 => .inr (.inr ⟨p1, p2, (ns.map V.int).take n, [.int 0], rfl, rfl, ?_, upd_same, ?_, fun p3 hp3 => ?_⟩)⟩
  · rw [upd_ne (fun z => by rw [z, upd_same] at hp2; cases hp2), cut_take, upd_same]
  · rw [List.length_take, List.length_map, sizeLine_eq]
    show min n ns.length + 1 ≤ _
    omega
  have hcs : (ns.map V.int).take n ++ [.int 0] = (cellsOf ns n).map V.int := by
    unfold cellsOf
    rw [List.map_append, List.map_take]
    rfl
  rw [hcs]
  generalize hH1 : upd (upd (upd H p1 (.lst (cutV (ns.map V.int) none (some (n : Int))))) p2 (.lst [.int 0])) p3 (.lst ((cellsOf ns n).map V.int)) = H1
  have s1 : Same H H1 := by
    rw [← hH1]
    exact (same_upd hp1).trans ((same_upd hp2).trans (same_upd hp3))
  have e3 : H1 p3 = some (.lst ((cellsOf ns n).map V.int)) := by rw [← hH1, upd_same]
  refine ⟨p3, _, rfl, .of e3, fun Dl hD => ?_⟩
  have lcl : (cellsOf ns n).length ≤ 64 := by unfold cellsOf; rw [List.length_append, List.length_take]; simp; omega
  refine lc_it (σ := [some (.ref a), some (.int n), none, none]) (walk_enum (K := K) (a := p3) (xs := (cellsOf ns n).map V.int)) (fun i Hi => ∃ bs : List Addr, bs.length = i ∧ Hi Dl = some (.lst (bs.map V.ref)) ∧ bs.Nodup ∧ Dl ∉ bs ∧ Same H1 Hi ∧
      ∀ (j : Nat) b c, bs[j]? = some b → (bagsL 0 (cellsOf ns n))[j]? = some c → H1 b = none ∧ Hi b = some (.lst (c.map V.int))) ⟨[], rfl, upd_same, .nil, by simp, same_upd hD, fun j b c e => by simp at e⟩
    (fun i Hi _ ⟨bs, _, _, _, _, s, _⟩ => .of (s _ _ e3)) ?_ ?_
  · rintro i x Hi H2 hi ⟨bs, hbl, hbD, hbn, hDb, s2, hbs⟩ ⟨T, x1, x2, rfl, hT, rfl, ex1, ex2⟩
    cases Option.some.inj ex1
    rw [List.length_map] at hi
    have ec : (cellsOf ns n)[i]? = some (cellsOf ns n)[i] := List.getElem?_eq_getElem hi
    have ex2 : ((cellsOf ns n).map V.int)[i]? = some x2 := ex2
    rw [List.getElem?_map, ec] at ex2
    cases Option.some.inj ex2
    have sT : Same Hi (upd Hi T (.tup [.int (i : Int), .int (cellsOf ns n)[i]])) := same_upd hT
    refine ⟨T, [.int (i : Int), .int (cellsOf ns n)[i]], rfl, .of upd_same, rfl, _, _, rfl, _, _, rfl, rfl, ?_⟩
    refine ⟨rfl, ?_⟩
    simp only [tYes, if_true]
    refine ⟨.int (cellsOf ns n)[i], rfl, .int (i : Int), rfl, 977, (i : Int), rfl, rfl, .inl ⟨by decide, by decide⟩, ?_⟩
    generalize hH2 : upd Hi T (.tup [.int (i : Int), .int (cellsOf ns n)[i]]) = H2 at sT
    show spP F [V.int (cellsOf ns n)[i], V.int (977 * (i : Int))] H2 _ E0
    refine ⟨fun b => H2 b ≠ none, [.int (cellsOf ns n)[i], .int (977 * (i : Int))], _, fun b h => h, .cons (rep_int.mpr rfl) (.cons (rep_int.mpr rfl) .nil), hw _ _, fun v H3 s3 r3 => ?_⟩
    simp only [Rep] at r3
    obtain ⟨b, us, rfl, nb, hb, r⟩ := r3
    have hbn2 : H2 b = none := by
      cases e : H2 b with
      | none => rfl
      | some o => exact absurd (some_ne e) nb
    have hbi : Hi b = none := sT.free hbn2
    rw [repL_ints_iff r] at hb
    have hDb2 : Dl ≠ b := fun z => by rw [← z, hbD] at hbi; cases hbi
    refine ⟨bs.map V.ref, s3 _ _ (sT _ _ hbD), by rw [List.length_map, hbl, sizeLine_eq]; omega, bs ++ [b], by rw [List.length_append, hbl]; rfl, by rw [upd_same, List.map_append]; rfl, ?_, ?_, ?_, ?_⟩
    · rw [List.nodup_append]
      refine ⟨hbn, by simp, fun x hx y hy => ?_⟩
      have ey : y = b := by simpa using hy
      rintro rfl
      subst ey
      obtain ⟨j, hj, ej⟩ := List.mem_iff_getElem.mp hx
      have hjc : j < (bagsL 0 (cellsOf ns n)).length := by rw [bagsL_len]; omega
      have := (hbs j x _ (by rw [List.getElem?_eq_getElem hj, ej]) (List.getElem?_eq_getElem hjc)).2
      rw [hbi] at this; cases this
    · intro z
      rcases List.mem_append.mp z with z | z
      · exact hDb z
      · exact hDb2 (by simpa using z)
    · exact (s2.trans (sT.trans s3)).put hD (.lst (s3 _ _ (sT _ _ hbD)))
    · intro j b' c e1 e2
      have keepb : ∀ {o : HO}, b' ≠ Dl → H3 b' = some o → upd H3 Dl (.lst (bs.map V.ref ++ [.ref b])) b' = some o := fun hne e => by rw [upd_ne hne]; exact e
      by_cases hj : j < bs.length
      · rw [List.getElem?_append_left hj] at e1
        obtain ⟨h1, h2⟩ := hbs j b' c e1 e2
        refine ⟨h1, keepb (fun z => hDb (by rw [← z]; exact List.mem_of_getElem? e1)) (s3 _ _ (sT _ _ h2))⟩
      · have ej : j = bs.length := by
          have := (List.getElem?_eq_some_iff.mp e1).1
          rw [List.length_append] at this
          simp at this
          omega
        subst ej
        rw [List.getElem?_append_right (Nat.le_refl _)] at e1
        simp at e1
        subst e1
        rw [bagsL_get, hbl, ec] at e2
        have e2' : wellL (cellsOf ns n)[i] (977 * ((0 + i : Nat) : Int)) = c := Option.some.inj e2
        rw [Nat.zero_add] at e2'
        subst e2'
        exact ⟨s2.free hbi, keepb (fun z => hDb2 z.symm) hb⟩
  · rintro Hi ⟨bs, hbl, hbD, hbn, hDb, s2, hbs⟩
    rw [List.length_map] at hbl
    have hDH : H Dl = none := s1.free hD
    refine q Dl bs Hi (s1.trans s2) hDH hbD hbl hbn hDb fun j b c e1 e2 => ?_
    obtain ⟨h1, h2⟩ := hbs j b c e1 e2
    exact ⟨s1.free h1, h2⟩
end DL

namespace DL
open PySem PySem.Spec
open PyProof.Rows hiding St
open L2
/-! ## isinstance, len, max, min of two -/
inductive Ty where | int | bool | str | tuple | list
def Ty.name : Ty → String
  | .int => "int" | .bool => "bool" | .str => "str" | .tuple => "tuple" | .list => "list"
def Ty.py : Ty → Str
  | .int => "int" | .bool => "bool" | .str => "str" | .tuple => "tuple" | .list => "list"
@[simp] def isTy : Ty → D → Bool
  | .int, .int _ => true
  | .int, .bool _ => true
  | .bool, .bool _ => true
  | .str, .str _ => true
  | .tuple, .tuple _ => true
  | .list, .list _ => true
  | _, _ => false
@[simp] def isTyD (T : Ty) : D → Option D := fun d => some (.bool (isTy T d))
@[simp] def isAnyD (Ts : List Ty) : D → Option D := fun d => some (.bool (Ts.any fun T => isTy T d))
theorem kt_none : ∀ T : Ty, kitB "NoneType" T.name = some (isTy T .none) := by intro T; cases T <;> decide +kernel
theorem kt_bool : ∀ T : Ty, kitB "bool" T.name = some (isTy T (.bool true)) := by intro T; cases T <;> decide +kernel
theorem kt_int : ∀ T : Ty, kitB "int" T.name = some (isTy T (.int 0)) := by intro T; cases T <;> decide +kernel
theorem kt_str : ∀ T : Ty, kitB "str" T.name = some (isTy T (.str ⟨#[]⟩)) := by intro T; cases T <;> decide +kernel
theorem kt_list : ∀ T : Ty, kitB "list" T.name = some (isTy T (.list [])) := by intro T; cases T <;> decide +kernel
theorem kt_tuple : ∀ T : Ty, kitB "tuple" T.name = some (isTy T (.tuple [])) := by intro T; cases T <;> decide +kernel
theorem kt_of {K : PySem.W.Frag} {a : String} {T : Ty} {d e : D} (h : kitB a T.name = some (isTy T d)) (q : isTy T d = isTy T e) : PySem.W.kitOne K (.type a) (.type T.name) = some (isTy T e) := by
  rw [← q]
  exact kit_ty h
theorem ty_of {K : PySem.W.Frag} {O : Addr → Prop} {H : Hp} {d : D} {v : V} (h : Rep O H d v) : ∃ t : String, TyX K H v (.type t) ∧ ∀ T : Ty, PySem.W.kitOne K (.type t) (.type T.name) = some (isTy T d) := by
  cases d with
  | none => rw [rep_none.mp h]; exact ⟨"NoneType", .base .non, fun T => kt_of (kt_none T) rfl⟩
  | bool b => rw [rep_bool.mp h]; exact ⟨"bool", .base (.bl b), fun T => kt_of (kt_bool T) (by cases T <;> rfl)⟩
  | int b => rw [rep_int.mp h]; exact ⟨"int", .base (.int b), fun T => kt_of (kt_int T) (by cases T <;> rfl)⟩
  | str b => rw [rep_str.mp h]; exact ⟨"str", .base (.str b), fun T => kt_of (kt_str T) (by cases T <;> rfl)⟩
  | list ds => simp only [Rep] at h; obtain ⟨a, vs, rfl, _, ha, _⟩ := h; exact ⟨"list", .base (.lst ha), fun T => kt_of (kt_list T) (by cases T <;> rfl)⟩
  | tuple ds => simp only [Rep] at h; obtain ⟨a, vs, rfl, ha, _⟩ := h; exact ⟨"tuple", .base (.tup ha), fun T => kt_of (kt_tuple T) (by cases T <;> rfl)⟩
  | dict ds => simp only [Rep] at h
theorem boot_ty (T : Ty) : bootBuiltins T.py = some (.type T.name) := by
  cases T <;> decide +kernel
section
variable {X : Cx} {B : Base} {m : Md} {e : Expr} {g : Rho → Option D} {pos p p2 : Pos}
theorem dp_isi {T : Ty} {y : Str} (hm : X.mg "isinstance" = none) (hmT : X.mg y = none) (hy : y = T.py) (he : DP X B m e g) (hg : Gl X "isinstance" := by rfl) (hgT : Gl X y := by rfl) (hn : y ≠ "__name__" := by decide) (hd : (y == ("__debug__" : Str)) = false := by decide)
    (hs : starEach (e :: [.Name y p2]) X.env = (false, eval e X.env) :: starEach [.Name y p2] X.env := by rfl) (hpl : (backTo pos (starEach [.Name y p2] X.env)).any (·.1) = false := by rfl) :
    DP X B m (.Call (.Name "isinstance" p) [e, .Name y p2] [] pos) (b1D g (isTyD T)) := by
  subst hy
  refine ⟨(pe_callB call_isi hg hm boot_isinstance (pa_cons he.pe (pa_cons (pe_bltn (v := .ty T.name) hgT hmT (boot_ty T) rfl hn hd) pa_nil) hs) (by decide) (by decide) hs hpl).imp fun σ H Q ⟨O, ρ, d, gd, e, q⟩ => ?_⟩
  obtain ⟨d1, e1, e2⟩ := bind_some e
  cases e2
  refine ⟨O, ρ, d1, gd, e1, fun v H1 s1 r1 => ?_⟩
  obtain ⟨t, h1, h2⟩ := ty_of (K := X.K) r1
  exact ⟨v, .ty T.name, _, _, _, rfl, .ty _, h1, h2 T, q _ H1 s1 (rep_bool.mpr rfl)⟩
theorem kit_any {K : PySem.W.Frag} {t : String} {d : D} (h : ∀ T : Ty, PySem.W.kitOne K (.type t) (.type T.name) = some (isTy T d)) : ∀ Ts : List Ty, PySem.W.kitAny K (.type t) (Ts.map fun T => Value.type T.name) = some (Ts.any fun T => isTy T d)
  | [] => kitAny_nil
  | T :: Ts => by
    rw [List.map_cons, List.any_cons]
    refine kitAny_cons (h T) (fun e => ?_) fun e => ?_
    · rw [e, Bool.false_or]; exact kit_any h Ts
    · rw [e, Bool.true_or]
theorem dp_isi3 {T1 T2 T3 : Ty} {y1 y2 y3 : Str} {q1 q2 q3 pt : Pos} {kt} (hm : X.mg "isinstance" = none) (hm1 : X.mg y1 = none) (hm2 : X.mg y2 = none) (hm3 : X.mg y3 = none) (hy1 : y1 = T1.py) (hy2 : y2 = T2.py) (hy3 : y3 = T3.py) (he : DP X B m e g) (hg : Gl X "isinstance" := by rfl)
    (hg1 : Gl X y1 := by rfl) (hg2 : Gl X y2 := by rfl) (hg3 : Gl X y3 := by rfl) (hn1 : y1 ≠ "__name__" := by decide) (hn2 : y2 ≠ "__name__" := by decide) (hn3 : y3 ≠ "__name__" := by decide) (hd1 : (y1 == ("__debug__" : Str)) = false := by decide) (hd2 : (y2 == ("__debug__" : Str)) = false := by decide) (hd3 : (y3 == ("__debug__" : Str)) = false := by decide)
    (hs : starEach (e :: [.Tuple [.Name y1 q1, .Name y2 q2, .Name y3 q3] kt pt]) X.env = (false, eval e X.env) :: starEach [.Tuple [.Name y1 q1, .Name y2 q2, .Name y3 q3] kt pt] X.env := by rfl) (hpl : (backTo pos (starEach [.Tuple [.Name y1 q1, .Name y2 q2, .Name y3 q3] kt pt] X.env)).any (·.1) = false := by rfl)  :
    DP X B m (.Call (.Name "isinstance" p) [e, .Tuple [.Name y1 q1, .Name y2 q2, .Name y3 q3] kt pt] [] pos) (b1D g (isAnyD [T1, T2, T3])) := by
  subst hy1 hy2 hy3
  refine ⟨(pe_callB call_isiT hg hm boot_isinstance (pa_cons he.pe (pa_cons (pe_tup (pa_cons (pe_bltn (v := .ty T1.name) hg1 hm1 (boot_ty T1) rfl hn1 hd1) (pa_cons (pe_bltn (v := .ty T2.name) hg2 hm2 (boot_ty T2) rfl hn2 hd2) (pa_cons (pe_bltn (v := .ty T3.name) hg3 hm3 (boot_ty T3) rfl hn3 hd3) pa_nil)))) pa_nil) hs) (by decide) (by decide) hs hpl).imp fun σ H Q ⟨O, ρ, d, gd, e, q⟩ => ?_⟩
  obtain ⟨d1, e1, e2⟩ := bind_some e
  cases e2
  refine ⟨O, ρ, d1, gd, e1, fun v H1 s1 r1 => ?_⟩
  refine ⟨by show 3 ≤ sizeLine; rw [sizeLine_eq]; decide, fun tp htp => ?_⟩
  have r2 := r1.same (H' := upd H1 tp (.tup [.ty T1.name, .ty T2.name, .ty T3.name])) (same_upd htp)
  obtain ⟨t, h1, h2⟩ := ty_of (K := X.K) r2
  refine ⟨v, tp, _, .type t, [.type T1.name, .type T2.name, .type T3.name], _, rfl, upd_same, .cons (.ty _) (.cons (.ty _) (.cons (.ty _) .nil)), h1, kit_any h2 [T1, T2, T3], q _ _ (s1.trans (same_upd htp)) (rep_bool.mpr rfl)⟩
end
/-! ## an item of a list of one's own -/
@[simp] def ixO (i : Nat) (gk : Rho → Option D) : Rho → Option D := fun ρ => (gk ρ).bind fun k => (asInt k).bind fun k => (ρ[i]?).bind fun t => (ownOf t).bind fun es => (atI es k).bind immD
section
variable {X : Cx} {B : Base} {m : Md} {k : Expr} {gk : Rho → Option D} {pos p : Pos}
theorem dp_ixO {i : Nat} {x : Str} (hN : X.N[i]? = some x) (hk : DP X B m k gk) (hv : Vis X.env.scope x := by first | exact Or.inl rfl | exact Or.inr (Or.inl rfl) | exact Or.inr (Or.inr rfl)) (hd : (x == ("__debug__" : Str)) = false := by decide)
    (hcd : (x == ("__classdict__" : Str)) = false := by decide) (hs : PlainIx k := by exact fun _ _ => rfl) : DP X B m (.Subscript (.Name x p) k pos) (ixO i gk) := ⟨(pe_ix ix_list (pv i hN hv hd hcd) hk.pe hs).imp fun σ H Q ⟨O, ρ, d, gd, e, q⟩ => by
  obtain ⟨kd, e1, e2⟩ := bind_some e
  obtain ⟨n, e3, e4⟩ := bind_some e2
  obtain ⟨t, e5, e6⟩ := bind_some e4
  obtain ⟨es, e7, e8⟩ := bind_some e6
  obtain ⟨z, e9, e10⟩ := bind_some e8
  have ek : kd = .int n := by
    unfold asInt at e3
    split at e3
    · cases e3; rfl
    · cases e3
  subst ek
  obtain ⟨a, vs, h1, h2, h3, h4⟩ := gd.ownAt e5 e7
  obtain ⟨v, e11, r⟩ := atI_rep h4 e9
  unfold immD at e10
  split at e10
  · next hi =>
    cases e10
    refine ⟨_, h1, O, ρ, _, gd, e1, fun w H1 s1 r1 => ⟨a, vs, n, v, rfl, rep_int.mp r1, .of (s1 a _ h3), e11, q v H1 s1 ((r.same s1).imm hi)⟩⟩
  · cases e10⟩
end
@[simp] def lenD : List D → Option D
  | [.list ds] => some (.int ds.length)
  | [.tuple ds] => some (.int ds.length)
  | _ => none
@[simp] def max2D : List D → Option D
  | [.int i, .int j] => some (.int (if j > i then j else i))
  | _ => none
@[simp] def min2D : List D → Option D
  | [.int i, .int j] => some (.int (if j < i then j else i))
  | _ => none
theorem repL_one {O : Addr → Prop} {H : Hp} {d : D} {vs : List V} (h : RepL O H [d] vs) : ∃ v, vs = [v] ∧ Rep O H d v := by
  simp only [RepL] at h
  obtain ⟨v, ws, rfl, r, rfl⟩ := h
  exact ⟨v, rfl, r⟩
theorem repL_two {O : Addr → Prop} {H : Hp} {d e : D} {vs : List V} (h : RepL O H [d, e] vs) : ∃ v w, vs = [v, w] ∧ Rep O H d v ∧ Rep O H e w := by
  simp only [RepL] at h
  obtain ⟨v, ws, rfl, r, w, us, rfl, r2, rfl⟩ := h
  exact ⟨v, w, rfl, r, r2⟩
section
variable {K : PySem.W.Frag}
theorem n_len : OpN (fun xs H Q => ∃ p ys, xs = [.ref p] ∧ (SqL K H p ys ∨ SqT K H p ys) ∧ Q (.int ys.length) H) lenD := by
  intro O H ds z xs Q t hf rx q
  unfold lenD at hf
  split at hf
  · cases hf
    obtain ⟨v, rfl, r⟩ := repL_one rx
    simp only [Rep] at r
    obtain ⟨a, vs, rfl, _, ha, r⟩ := r
    exact ⟨a, vs, rfl, .inl (.of ha), q _ H (Same.refl H) (rep_int.mpr (by rw [r.length]))⟩
  · cases hf
    obtain ⟨v, rfl, r⟩ := repL_one rx
    simp only [Rep] at r
    obtain ⟨a, vs, rfl, ha, r⟩ := r
    exact ⟨a, vs, rfl, .inr (.of ha), q _ H (Same.refl H) (rep_int.mpr (by rw [r.length]))⟩
  · cases hf
theorem n_max2 : OpN (fun xs H Q => ∃ i j, xs = [.int i, .int j] ∧ Q (.int (if j > i then j else i)) H) max2D := by
  intro O H ds z xs Q t hf rx q
  unfold max2D at hf
  split at hf
  · cases hf
    obtain ⟨v, w, rfl, r, r2⟩ := repL_two rx
    rw [rep_int.mp r, rep_int.mp r2]
    exact ⟨_, _, rfl, q _ H (Same.refl H) (rep_int.mpr rfl)⟩
  · cases hf
theorem n_min2 : OpN (fun xs H Q => ∃ i j, xs = [.int i, .int j] ∧ Q (.int (if j < i then j else i)) H) min2D := by
  intro O H ds z xs Q t hf rx q
  unfold min2D at hf
  split at hf
  · cases hf
    obtain ⟨v, w, rfl, r, r2⟩ := repL_two rx
    rw [rep_int.mp r, rep_int.mp r2]
    exact ⟨_, _, rfl, q _ H (Same.refl H) (rep_int.mpr rfl)⟩
  · cases hf
end
end DL

namespace DL
open PySem PySem.Spec
open PyProof.Rows hiding St
open L2
/-! ## the ends of a row -/
structure DefAt (K : PySem.W.Frag) (mg : Str → Option Value) (x : Str) (st : Stmt) (ps : List Str) : Prop where
  ex : ∃ f fd, L2.Fun K x x st f fd ∧ Binds K fd ps [] ∧ mg x = some (.ref f)
def spLaw (K : PySem.W.Frag) : Sp := fun vs H Q _ => ∃ (a : Addr) (ns : List Int), vs = [.ref a] ∧ SqL K H a (ns.map V.int) ∧ ns.length ≤ 63 ∧ ∀ H', Q (.bl true) H'
theorem good_law (H : Hp) (a : Addr) (n : Nat) : Good ⟨H, fun _ => False, fun _ => False, nolam, Str.empty⟩ (fun _ => False) (some (.ref a) :: List.replicate n none) H (.raw (.ref a) :: List.replicate n .nil) := by
  have no : ∀ (i : Nat) s, (Sl.raw (V.ref a) :: List.replicate n Sl.nil)[i]? = some s → isOwn s = false := fun i s e => by
    cases i with
    | zero => simp at e; subst e; rfl
    | succ i =>
      rw [List.getElem?_cons_succ, List.getElem?_replicate] at e
      split at e
      · cases e; rfl
      · cases e
  refine ⟨by simp, FrB.start, fun _ h => h.elim, fun _ h => h.elim, fun _ h => h, fun _ h => h.elim, fun _ h => h, fun i s e => ?_, fun i j s t b e1 _ q _ _ _ => by rw [no i s e1] at q; cases q⟩
  cases i with
  | zero => simp at e; subst e; rfl
  | succ i =>
    rw [List.getElem?_cons_succ, List.getElem?_replicate] at e
    split at e
    · cases e; trivial
    · cases e
abbrev mulA := mulD
theorem op_mulA {X : Cx} : OpR X (binaryOp .Mult) (rI CMul fun i j => .int (i * j)) := op_mul
theorem o_mulA : Op2 (rI CMul fun i j => .int (i * j)) mulA := o_mul
theorem Fn.mono {P : Program} {w : World} {K : PySem.W.Frag} {mg : Str → Option Value} {base : Heap} {j k : Nat} {x : Str} {F : List D → Option D} (h : Fn P w K mg base j x F) (hk : j ≤ k) : Fn P w K mg base k x F := by
  obtain ⟨f, fd, ps, G, r⟩ := h.ex
  exact ⟨f, fd, ps, G.mono hk, r⟩
end DL

namespace DL
open PySem PySem.Spec
open PyProof.Rows hiding St
open L2
/-! ## facts for evaluation -/
@[simp] theorem shaped_int (i : Int) : SeqAt.shaped (.int i) = true := by simp [SeqAt.shaped, PyData.canLay0, PyData.depth]
@[simp] theorem shaped_bool (i : Bool) : SeqAt.shaped (.bool i) = true := by simp [SeqAt.shaped, PyData.canLay0, PyData.depth]
@[simp] theorem shaped_none : SeqAt.shaped .none = true := by simp [SeqAt.shaped, PyData.canLay0, PyData.depth]
@[simp] theorem eqv_int (i j : Int) : PyData.eqv (.int i) (.int j) = (i == j) := by simp [PyData.eqv]
@[simp] theorem atI_natCast {α : Type} (xs : List α) (n : Nat) : atI xs (n : Int) = xs[n]? := by
  by_cases h : n < xs.length
  · rw [atI_nat (List.getElem?_eq_getElem h), List.getElem?_eq_getElem h]
  · rw [List.getElem?_eq_none (by omega)]
    unfold atI ixN
    rw [if_pos (by omega), if_neg (by omega)]
    rfl
@[simp] theorem atI_zero {α : Type} (xs : List α) : atI xs 0 = xs[0]? := atI_natCast xs 0
@[simp] theorem atI_one {α : Type} (xs : List α) : atI xs 1 = xs[1]? := atI_natCast xs 1
@[simp] theorem atI_two {α : Type} (xs : List α) : atI xs 2 = xs[2]? := atI_natCast xs 2
@[simp] theorem atI_three {α : Type} (xs : List α) : atI xs 3 = xs[3]? := atI_natCast xs 3
@[simp] theorem atI_neg_one {α : Type} (xs : List α) : atI xs (-1) = xs.getLast? := by
  cases h : xs.getLast? with
  | none =>
    rw [List.getLast?_eq_none_iff] at h
    subst h
    rfl
  | some v =>
    obtain ⟨ys, rfl⟩ := List.getLast?_eq_some_iff.mp h
    exact atI_last ys v
@[simp] theorem ixN_zero (n : Nat) : ixN (n + 1) 0 = some 0 := by
  unfold ixN
  rw [if_pos (by omega), if_pos (by omega)]
  rfl
@[simp] theorem ixN_one (n : Nat) : ixN (n + 2) 1 = some 1 := by
  unfold ixN
  rw [if_pos (by omega), if_pos (by omega)]
  rfl
@[simp] theorem ixN_two (n : Nat) : ixN (n + 3) 2 = some 2 := by
  unfold ixN
  rw [if_pos (by omega), if_pos (by omega)]
  rfl
/-! ## draws -/
def bigM : Int := 2305843009213693951
def Bag (n : Int) (bs : List D) : Prop := ∃ a b c : Int, bs = [.int a, .int b, .int c] ∧ 0 ≤ b ∧ b < bigM ∧ 0 ≤ c ∧ c ≤ n
theorem Bag.mono {n m : Int} {bs : List D} (h : Bag n bs) (l : n ≤ m) : Bag m bs := by
  obtain ⟨a, b, c, e, h1, h2, h3, h4⟩ := h
  exact ⟨a, b, c, e, h1, h2, h3, by omega⟩
theorem bag_well (c t n : Int) (h0 : 0 ≤ t) (h : t ≤ n) : Bag n (intsD (wellL c t)) := by
  have h1 : 0 ≤ c % bigM := Int.emod_nonneg _ (by decide)
  have h2 : c % bigM < bigM := Int.emod_lt_of_pos _ (by decide)
  unfold wellL
  split
  · exact ⟨_, _, _, rfl, h1, h2, h0, h⟩
  · exact ⟨_, _, _, rfl, h1, h2, h0, h⟩
theorem bags_bag : ∀ (cs : List Int) (k : Nat) (n : Int), 977 * ((k + cs.length : Nat) : Int) ≤ n → ∀ c ∈ bagsL k cs, Bag n (intsD c)
  | [], k, n, h, c, hc => by simp [bagsL] at hc
  | x :: cs, k, n, h, c, hc => by
    simp only [bagsL, List.mem_cons] at hc
    simp only [List.length_cons] at h
    rcases hc with rfl | hc
    · exact bag_well _ _ _ (by omega) (by omega)
    · exact bags_bag cs (k + 1) n (by omega) c hc
theorem lawL_ok {i : Nat} {F : Rho → Option Out} (J : Rho → Prop) : ∀ (cs : List (List Int)), (∀ c ∈ cs, ∀ ρ, J ρ → ∃ ρ', F (ρ.set i (.own (intsD c))) = some (.nx ρ') ∧ J ρ') → ∀ ρ, J ρ → ∃ ρ', lawL i F cs ρ = some (.nx ρ') ∧ J ρ'
  | [], h, ρ, j => ⟨ρ, rfl, j⟩
  | c :: cs, h, ρ, j => by
    obtain ⟨ρ1, e1, j1⟩ := h c (by simp) ρ j
    obtain ⟨ρ2, e2, j2⟩ := lawL_ok J cs (fun c hc => h c (by simp [hc])) ρ1 j1
    refine ⟨ρ2, ?_, j2⟩
    unfold lawL
    rw [e1]
    exact e2
/-- the law's loop over its draws -/
theorem lawF_ok {i n : Nat} {a : Addr} {ns : List Int} {F : Rho → Option Out} (hn : n ≤ 63) (J : Rho → Prop) (hJ : ∀ ρ, J ρ → ρ[0]? = some (.raw (.ref a))) (h : ∀ bs ρ, Bag 100000 bs → J ρ → ∃ ρ', F (ρ.set i (.own bs)) = some (.nx ρ') ∧ J ρ') {ρ : Rho} (j : J ρ) :
    ∃ ρ', lawF i 0 n a ns F ρ = some (.nx ρ') ∧ J ρ' := by
  have hl : (cellsOf ns n).length ≤ 64 := by unfold cellsOf; rw [List.length_append, List.length_take]; simp; omega
  obtain ⟨ρ', e, j'⟩ := lawL_ok (i := i) (F := F) J (bagsL 0 (cellsOf ns n)) (fun c hc ρ j => h _ ρ (bags_bag _ 0 100000 (by omega) c hc) j) ρ j
  refine ⟨ρ', ?_, j'⟩
  unfold lawF
  rw [hJ ρ j]
  simp only [if_true]
  exact e
theorem seq_nx {F G : Rho → Option Out} {ρ ρ1 : Rho} {r : Option Out} (h : F ρ = some (.nx ρ1)) (h2 : G ρ1 = r) : seqF F G ρ = r := by
  simp [seqF, h, h2]
theorem pick2 {a b r : Int} (h0 : 0 ≤ r) (h : r < 2) : ∃ m, atI [PyData.int a, .int b] r = some (.int m) ∧ (m = a ∨ m = b) := by
  rcases (show r = 0 ∨ r = 1 by omega) with rfl | rfl
  · exact ⟨a, by simp, .inl rfl⟩
  · exact ⟨b, by simp, .inr rfl⟩
theorem pick3 {a b c r : Int} (h0 : 0 ≤ r) (h : r < 3) : ∃ m, atI [PyData.int a, .int b, .int c] r = some (.int m) ∧ (m = a ∨ m = b ∨ m = c) := by
  rcases (show r = 0 ∨ r = 1 ∨ r = 2 by omega) with rfl | rfl | rfl
  · exact ⟨a, by simp, .inl rfl⟩
  · exact ⟨b, by simp, .inr (.inl rfl)⟩
  · exact ⟨c, by simp, .inr (.inr rfl)⟩
theorem pick4 {a b c d r : Int} (h0 : 0 ≤ r) (h : r < 4) : ∃ m, atI [PyData.int a, .int b, .int c, .int d] r = some (.int m) ∧ (m = a ∨ m = b ∨ m = c ∨ m = d) := by
  rcases (show r = 0 ∨ r = 1 ∨ r = 2 ∨ r = 3 by omega) with rfl | rfl | rfl | rfl
  · exact ⟨a, by simp, .inl rfl⟩
  · exact ⟨b, by simp, .inr (.inl rfl)⟩
  · exact ⟨c, by simp, .inr (.inr (.inl rfl))⟩
  · exact ⟨d, by simp, .inr (.inr (.inr rfl))⟩
end DL

/-! ## enumerate of a tuple -/
namespace DL
open PySem
set_option maxHeartbeats 1000000 in
theorem meets_enumerate_new1 {v : Value} {o : Obj} {H : Heap → Prop} (B : Begins v o H) :
    Meets (Builtin.«enumerate.__new__» ⟨[.type "enumerate", v], []⟩) (fun _ R s => H s.heap ∧
      R (.ok (.ret (.ref (s.heap.push o).objs.size))) { s with heap := (s.heap.push o).push { cls := .type "enumerate", data := .fields #[.none, .bool false, .ref s.heap.objs.size, rawInt 0, .none, .none] } }) :=
  .of_wp fun prog w A R s h => by
    obtain ⟨hp, g, d, tk, os⟩ := s
    obtain ⟨h1, h⟩ := h
    have hsub := sub_enumerate
    have q1 : ∀ {A' : Around} {E : Value → Shared → Prop} {Q : Value → Shared → Prop}, Q (.ref hp.objs.size) ⟨hp.push o, g, d, tk, os⟩ → wpAny (model prog w) A' (pyIter v) Q E ⟨hp, g, d, tk, os⟩ :=
      fun q => B.iter prog w _ _ ⟨hp, g, d, tk, os⟩ _ h1 q
    wp_walk using q1
    refine wpAny_stack_any fun st => wpAny_pure ?_
    split
    · rename_i c _ _ _ _ _
      cases (c == Value.type "enumerate")
      · wp_walk using q1
        exact ⟨_, rfl, h⟩
      · wp_walk using q1
        exact ⟨_, rfl, h⟩
    · wp_walk using q1
      exact ⟨_, rfl, h⟩
theorem enum_begins1 {prog : Program} {w : World} {A : Around} {E : Value → Shared → Prop} {s : Shared} {v : Value} {o : Obj} {H : Heap → Prop} {Q : Value → Shared → Prop} (B : Begins v o H) (h1 : H s.heap)
    (h : ∀ h', IsEnum h' (s.heap.objs.size + 1) s.heap.objs.size 0 .none → h'.get? s.heap.objs.size = some o → h'.objs.size = s.heap.objs.size + 2 →
      (∀ b o, s.heap.get? b = some o → h'.get? b = some o) → Q (.ref (s.heap.objs.size + 1)) { s with heap := h' }) :
    wpAny (model prog w) A (call (.type "enumerate") [v]) Q E s := by
  refine callType_new F.called_enumerate (by decide) (F.typeCall_enumerate_1 _) (F.newCall_enumerate_1 _) (fun obj => F.args_object_init_2 obj _) F.entry_enumerate_new
    (meets_enumerate_new1 B) ⟨h1, ?_⟩
  have hz : (s.heap.push o).objs.size = s.heap.objs.size + 1 := Heap.size_push ..
  show _ ∧ _
  rw [hz]
  have he : IsEnum ((s.heap.push o).push { cls := .type "enumerate", data := .fields #[.none, .bool false, .ref s.heap.objs.size, rawInt 0, .none, .none] }) (s.heap.objs.size + 1) s.heap.objs.size 0 .none := by
    have := Heap.get?_push_size (s.heap.push o) (o := { cls := .type "enumerate", data := .fields #[.none, .bool false, .ref s.heap.objs.size, rawInt 0, .none, .none] }) rfl
    rw [hz] at this
    exact this
  exact ⟨⟨_, he, rfl⟩, h _ he (Heap.get?_push_of_some _ (Heap.get?_push_size _ B.free)) (by rw [Heap.size_push, hz]) fun b o x => Heap.get?_push_of_some _ (Heap.get?_push_of_some _ x)⟩
end DL
namespace DL
open PySem PySem.Spec
open PyProof.Rows hiding St
open L2
/-- the tuple at a, each item in a new pair -/
def ItEn (K : PySem.W.Frag) (a : Addr) : It :=
  ⟨fun i H => ∃ (xs : List V) (x : V), SqT K H a xs ∧ xs[i]? = some x, fun i H v H' => ∃ T x, v = .ref T ∧ H T = none ∧ H' = upd H T (.tup [.int (i : Nat), x]) ∧ ∀ xs, SqT K H a xs → xs[i]? = some x, fun i H => ∃ xs : List V, SqT K H a xs ∧ xs.length ≤ i⟩
theorem turn_enumT {P : Program} {w : World} {K : PySem.W.Frag} {elts : List Expr} {kk : Nat} {tpos : Pos} (a e it : Addr) (hae : a ≠ it) :
    Turn P w K (.Tuple elts kk tpos) (ItEn K a) [e, it] e (fun i h => (∃ old, IsEnum h e it ((i : Nat) : Int) old) ∧ h.IsTupleIter it a i ∧ e ≠ it) where
  mem := by simp
  obj := fun i h st b hb => by
    obtain ⟨⟨old, he⟩, ⟨o, ho, hc, hd⟩, _⟩ := st
    have e' : b = e ∨ b = it := by simpa using hb
    rcases e' with z | z
    · rw [z]; exact ⟨_, he, fun v q => nomatch q⟩
    · rw [z]; exact ⟨o, ho, fun v q => by rw [hd] at q; cases q⟩
  keep := fun i h h' st k => let ⟨⟨old, he⟩, hi, hne⟩ := st; ⟨⟨old, k e (by simp) _ he⟩, hi.at fun o q => k it (by simp) o q, hne⟩
  item := by
    intro X hP hw hK hc i pins s σ H E I hf st hg
    subst hP hw hK
    obtain ⟨⟨old, he⟩, hit, hne⟩ := st
    obtain ⟨xs, x, hq, hx⟩ := hg
    obtain ⟨its, rv, p, hz⟩ := I.tuple hq
    obtain ⟨u, hu, ru⟩ := rv.get hx
    have hel : e < s.heap.objs.size := Heap.lt_size he
    have hil : it < s.heap.objs.size := by obtain ⟨_, q, _⟩ := hit; exact Heap.lt_size q
    have hea : e ≠ a := fun z => by
      obtain ⟨o, ho, hco, _⟩ := p
      rw [← z] at ho
      rw [he] at ho
      cases ho
      exact absurd (Value.type.inj hco) (by decide)
    have pt : s.heap.IsTuple a its.toArray := p
    have hi : i < its.toArray.size := by
      have := (List.getElem?_eq_some_iff.mp hu).1
      simpa using this
    refine wpAny_pyNext_enum_itemD (Draws.tuple (show X.A.in1.handled = none from I.ok.hd hc) it a hae its.toArray) he ⟨hit, pt⟩ hi hne (by simp [hne, hea]) fun y h' tk hy ho hst hT hsz hk => ?_
    obtain ⟨hit', _⟩ := hst
    have ey : y = u := by
      have hu' : its.toArray[i]? = some u := by simpa using hu
      rw [hu'] at hy
      exact (Option.some.inj hy).symm
    subst ey
    refine ⟨_, rfl, wpAny_letOwnedTupleGo_enum (s := { s with heap := h', toks := tk + 1 }) ho fun h'' he' sb => ?_⟩
    have hT2 : h''.get? s.heap.objs.size = some { cls := .type "tuple", data := .seq #[.int i tk, y] } := (sb.2 _ (Nat.ne_of_gt hel)).trans hT
    have new : ObjOk X.prog X.w (upd H s.heap.objs.size (.tup [.int (i : Nat), x])) h'' s.heap.objs.size (.tup [.int (i : Nat), x]) :=
      ⟨by show 2 ≤ sizeLine; decide, [.int i tk, y], .cons ⟨_, rfl⟩ (.cons ru .nil), ⟨_, hT2, rfl, _, rfl⟩⟩
    have I1 : Inv X pins σ (upd H s.heap.objs.size (.tup [.int (i : Nat), x])) { s with heap := h'', toks := tk + 1 } :=
      I.turnedNew (ch := [e, it]) (fun b ob hb q => (sb.2 b (fun z => hb (by simp [z]))).trans (hk b ob (fun z => hb (by simp [z])) (fun z => hb (by simp [z])) q)) hf (Nat.le_refl _) new
    refine ⟨.ref s.heap.objs.size, _, I1, rfl, ⟨_, x, rfl, I.hok.fresh (Nat.le_refl _), rfl, fun ys hy => by rw [I.tuple_inj hy hq]; exact hx⟩, ⟨⟨y, ?_⟩, hit'.at fun o q => (sb.2 it (Ne.symm hne)).trans q, hne⟩, fun b hb => ?_⟩
    · have e1 : ((i + 1 : Nat) : Int) = (i : Int) + 1 := by omega
      rw [e1]; exact he'
    · have hb' : b < s.heap.objs.size := by
        have e' : b = e ∨ b = it := by simpa using hb
        rcases e' with z | z
        · rw [z]; exact hel
        · rw [z]; exact hil
      rw [upd_ne (Nat.ne_of_lt hb')]
      exact (hf b hb).1
  done := by
    intro X hP hw hK hc i pins s σ H E I hf st hg
    subst hP hw hK
    obtain ⟨⟨old, he⟩, hit, hne⟩ := st
    obtain ⟨xs, hq, hx⟩ := hg
    obtain ⟨its, rv, p, hz⟩ := I.tuple hq
    obtain ⟨f0, f1, f2, f3, f4, f5⟩ := hf it (by simp)
    have hl := rv.length
    have pt : s.heap.IsTuple a its.toArray := p
    unfold pyNext
    have hT : s.TypeIs (.ref e) "enumerate" := ⟨_, he, rfl⟩
    refine wpAny_bind (wpAny_attempt (wpAny_callSpecial?_slot (name := Str.ofString "__next__") hT F.slot_enumerate_next
      (wpAny_call_entry F.slot_enumerate_next hT F.entry_enumerate_next ?_ (F.args_enumerate_next_1 _))))
    show wpAny _ _ (field (.ref e) 2 >>= _) _ _ _
    refine wpAny_bind (wpAny_field he rfl (x := .ref it) rfl ?_)
    refine wpAny_bind (wpAny_nextOf_tuple_end (I.ok.hd hc) hit pt (by simp; omega) fun h' x he' hx' => ?_)
    obtain ⟨o, ho, hco⟩ := hx'
    refine wpAny_bind (wpAny_isInstance (T := "StopIteration") (b := true) ⟨o, ho, hco⟩ isSubtype_stop ?_)
    exact wpAny_pure ⟨rfl, I.turned (t' := s.toks) (fun b o hb q => he' b o hb q) f0 f1 f3 f4 f5⟩
  self := fun A i s Q E st h => let ⟨⟨_, he⟩, _⟩ := st; wpAny_pyIter_enum he h
def iEnT (K : PySem.W.Frag) (ta : TA) : TI := fun σ H R => ta σ H fun vs H1 => ∃ a xs, vs = [.ref a] ∧ SqT K H1 a xs ∧ R (ItEn K a) H1
theorem pi_enT {X : Cx} {e : Expr} {ta : TA} {p pos tpos : Pos} {elts : List Expr} {kk : Nat} (hg : Gl X "enumerate") (hm : X.mg "enumerate" = none) (ha : PA X [e] ta) (hs : starEach [e] X.env = [(false, eval e X.env)] := by rfl) :
    PI X (.Tuple elts kk tpos) (.Call (.Name "enumerate" p) [e] [] pos) (iEnT X.K ta) := by
  refine ⟨fun pins s σ H R I h => ?_⟩
  refine Call_ (ld_blt I hg hm boot_enumerate (PyProof.Rows.callWith_type1 (thn (ha.run pos pins s σ H _ I h) fun us s1 ⟨vs, H1, I1, r1, q1⟩ => ?_) hs rfl))
  obtain ⟨a, xs, ex, hq, q⟩ := q1
  subst ex
  cases r1 with
  | cons r rr =>
    cases rr
    cases r
    obtain ⟨its, rv, p', hz⟩ := I1.tuple hq
    have pt : s1.heap.IsTuple a its.toArray := p'
    refine enum_begins1 (begins_tuple a its.toArray) pt fun h' he hit hsz hk => wpAny_pyIter_enum he ?_
    have I2 : Inv X pins σ H1 { s1 with heap := h' } := I1.kept (t' := s1.toks) hk
    have hlt : a < s1.heap.objs.size := by obtain ⟨o, ho, _⟩ := pt; exact Heap.lt_size ho
    refine ⟨s1.heap.objs.size + 1, [s1.heap.objs.size + 1, s1.heap.objs.size], _, _, H1, rfl, I2, turn_enumT a (s1.heap.objs.size + 1) s1.heap.objs.size (Nat.ne_of_lt hlt), ⟨⟨.none, he⟩, ⟨_, hit, rfl, rfl⟩, Nat.succ_ne_self _⟩, fun b hb => ?_, q⟩
    have e' : b = s1.heap.objs.size + 1 ∨ b = s1.heap.objs.size := by simpa using hb
    have hle : s1.heap.objs.size ≤ b := by
      rcases e' with z | z
      · rw [z]; exact Nat.le_add_right _ _
      · rw [z]; exact Nat.le_refl _
    exact I1.fpOk hle (I1.hok.fresh hle)
end DL

namespace DL
open PySem PySem.Spec
open PyProof.Rows hiding St
open L2
/-! ## enumerate, zip as sources -/
def pairD (d e : D) : D := .tuple [d, e]
def enumL : Nat → List D → List D
  | _, [] => []
  | k, d :: ds => .tuple [.int (k : Int), d] :: enumL (k + 1) ds
def zipL : List D → List D → List D
  | d :: ds, e :: es => .tuple [d, e] :: zipL ds es
  | _, _ => []
theorem enumL_get : ∀ (ds : List D) (k i : Nat), (enumL k ds)[i]? = (ds[i]?).map fun d => .tuple [.int ((k + i : Nat) : Int), d]
  | [], k, i => by simp [enumL]
  | d :: ds, k, 0 => by simp [enumL]
  | d :: ds, k, i + 1 => by
    simp only [enumL, List.getElem?_cons_succ]
    rw [enumL_get ds (k + 1) i]
    congr 1
    funext d
    congr 3
    omega
theorem enumL_len : ∀ (ds : List D) (k : Nat), (enumL k ds).length = ds.length
  | [], k => rfl
  | d :: ds, k => by simp [enumL, enumL_len ds (k + 1)]
theorem zipL_get : ∀ (ds es : List D) (i : Nat) (d e : D), ds[i]? = some d → es[i]? = some e → (zipL ds es)[i]? = some (.tuple [d, e])
  | [], es, i, d, e, h, _ => by simp at h
  | d :: ds, [], i, _, _, _, h => by simp at h
  | d :: ds, e :: es, 0, d', e', h, h' => by
    simp at h h'
    simp [zipL, h, h']
  | d :: ds, e :: es, i + 1, d', e', h, h' => by
    simp only [List.getElem?_cons_succ] at h h'
    simp only [zipL, List.getElem?_cons_succ]
    exact zipL_get ds es i d' e' h h'
theorem zipL_len : ∀ (ds es : List D), (zipL ds es).length = min ds.length es.length
  | [], es => by simp [zipL]
  | d :: ds, [] => by simp [zipL]
  | d :: ds, e :: es => by simp [zipL, zipL_len ds es]
@[simp] def enI (g : Rho → Option D) : Rho → Option (List D) := fun ρ => (g ρ).bind fun d => (seqD d).bind fun ds => some (enumL 0 ds)
@[simp] def zip2 : D → D → Option (List D)
  | .list ds, .list es => some (zipL ds es)
  | .tuple ds, .tuple es => some (zipL ds es)
  | _, _ => none
@[simp] def zipI (ga gb : Rho → Option D) : Rho → Option (List D) := fun ρ => (ga ρ).bind fun d => (gb ρ).bind fun e => zip2 d e
theorem src_enT {K : PySem.W.Frag} {O : Addr → Prop} {H : Hp} {a : Addr} {vs : List V} {ds : List D} (ha : H a = some (.tup vs)) (r : RepL O H ds vs) : Src O H (ItEn K a) (enumL 0 ds) := by
  refine ⟨fun O H => H a = some (.tup vs) ∧ RepL O H ds vs, ⟨ha, r⟩, fun O H O' H' m ⟨h2, h3⟩ => ⟨m.keep a _ h2 (.inl fun us z => by cases z), RepL.mv m _ _ h3⟩, fun i O H hi ⟨h2, h3⟩ => ?_, fun O H ⟨h2, h3⟩ => ?_, fun i O H x H' hi _ ⟨h2, h3⟩ y => ?_⟩
  · rw [enumL_len] at hi
    have hl := h3.length
    exact ⟨vs, vs[i], .of h2, by simp [← hl, hi]⟩
  · rw [enumL_len]
    exact ⟨vs, .of h2, by rw [h3.length]; exact Nat.le_refl _⟩
  · obtain ⟨T, x1, rfl, hT, rfl, yx⟩ := y
    obtain ⟨d, e1, r1⟩ := h3.getV (yx vs (.of h2))
    refine ⟨.tuple [.int (i : Int), d], by rw [enumL_get, e1, Nat.zero_add]; rfl, same_upd hT, ?_⟩
    exact rep_tup hT (.cons (rep_int.mpr rfl) (.cons r1 .nil))
theorem src_enL {K : PySem.W.Frag} {O : Addr → Prop} {H : Hp} {a : Addr} {vs : List V} {ds : List D} (no : ¬ O a) (ha : H a = some (.lst vs)) (r : RepL O H ds vs) : Src O H (Ite K a) (enumL 0 ds) := by
  refine ⟨fun O H => ¬ O a ∧ H a = some (.lst vs) ∧ RepL O H ds vs, ⟨no, ha, r⟩, fun O H O' H' m ⟨h1, h2, h3⟩ => ⟨fun z => ?_, m.keep a _ h2 (.inr h1), RepL.mv m _ _ h3⟩, fun i O H hi ⟨h1, h2, h3⟩ => ?_, fun O H ⟨h1, h2, h3⟩ => ?_, fun i O H x H' hi _ ⟨h1, h2, h3⟩ y => ?_⟩
  · rcases m.out a z with q | q
    · exact h1 q
    · rw [h2] at q; cases q
  · rw [enumL_len] at hi
    have hl := h3.length
    exact ⟨vs, vs[i], .of h2, by simp [← hl, hi]⟩
  · rw [enumL_len]
    exact ⟨vs, .of h2, by rw [h3.length]; exact Nat.le_refl _⟩
  · obtain ⟨T, x1, rfl, hT, rfl, yx⟩ := y
    obtain ⟨d, e1, r1⟩ := h3.getV (yx vs (.of h2))
    refine ⟨.tuple [.int (i : Int), d], by rw [enumL_get, e1, Nat.zero_add]; rfl, same_upd hT, ?_⟩
    exact rep_tup hT (.cons (rep_int.mpr rfl) (.cons r1 .nil))
theorem src_zip {O : Addr → Prop} {H : Hp} {J : It} {S1 S2 : Hp → List V → Prop} {vs ws : List V} {ds es : List D} {G1 G2 : (Addr → Prop) → Hp → Prop} (h1 : G1 O H) (h2 : G2 O H) (m1 : ∀ O H O' H', Mv O H O' H' → G1 O H → G1 O' H') (m2 : ∀ O H O' H', Mv O H O' H' → G2 O H → G2 O' H')
    (k1 : ∀ O H, G1 O H → S1 H vs ∧ RepL O H ds vs) (k2 : ∀ O H, G2 O H → S2 H ws ∧ RepL O H es ws)
    (go : ∀ i H x y, S1 H vs → S2 H ws → vs[i]? = some x → ws[i]? = some y → J.go i H) (st : ∀ i H, S1 H vs → S2 H ws → (vs.length ≤ i ∨ ws.length ≤ i) → J.stop i H)
    (yl : ∀ i H v H', S1 H vs → S2 H ws → J.yld i H v H' → ∃ T x y, v = .ref T ∧ H T = none ∧ H' = upd H T (.tup [x, y]) ∧ vs[i]? = some x ∧ ws[i]? = some y) : Src O H J (zipL ds es) := by
  refine ⟨fun O H => G1 O H ∧ G2 O H, ⟨h1, h2⟩, fun O H O' H' m ⟨a, b⟩ => ⟨m1 _ _ _ _ m a, m2 _ _ _ _ m b⟩, fun i O H hi ⟨a, b⟩ => ?_, fun O H ⟨a, b⟩ => ?_, fun i O H x H' hi _ ⟨a, b⟩ y => ?_⟩
  · rw [zipL_len] at hi
    obtain ⟨s1, r1⟩ := k1 _ _ a
    obtain ⟨s2, r2⟩ := k2 _ _ b
    have l1 := r1.length
    have l2 := r2.length
    exact go i H vs[i] ws[i] s1 s2 (List.getElem?_eq_getElem (by omega)) (List.getElem?_eq_getElem (by omega))
  · obtain ⟨s1, r1⟩ := k1 _ _ a
    obtain ⟨s2, r2⟩ := k2 _ _ b
    have l1 := r1.length
    have l2 := r2.length
    rw [zipL_len]
    exact st _ H s1 s2 (by omega)
  · obtain ⟨s1, r1⟩ := k1 _ _ a
    obtain ⟨s2, r2⟩ := k2 _ _ b
    obtain ⟨T, x1, x2, rfl, hT, rfl, e1, e2⟩ := yl i H x H' s1 s2 y
    obtain ⟨d, f1, q1⟩ := r1.getV e1
    obtain ⟨e, f2, q2⟩ := r2.getV e2
    exact ⟨_, zipL_get ds es i d e f1 f2, same_upd hT, rep_tup hT (.cons q1 (.cons q2 .nil))⟩
section
variable {X : Cx} {B : Base} {e e2 : Expr} {g g2 : Rho → Option D} {pos p tpos : Pos} {elts : List Expr} {kk : Nat}
theorem di_enum (hm : X.mg "enumerate" = none) (h : DP X B .str e g) (hg : Gl X "enumerate" := by rfl) (hs : starEach [e] X.env = [(false, eval e X.env)] := by rfl) (hs' : starEach [e] X.env = (false, eval e X.env) :: starEach [] X.env := by rfl) : DI X B (.Tuple elts kk tpos) (.Call (.Name "enumerate" p) [e] [] pos) (enI g) :=
  ⟨((pi_enum hg hm (pa_cons h.pe pa_nil hs') hs).or (pi_enT hg hm (pa_cons h.pe pa_nil hs') hs)).imp fun σ H R ⟨O, ρ, ds, gd, e, q⟩ => by
    obtain ⟨d, e1, e2⟩ := bind_some e
    obtain ⟨es, e3, e4⟩ := bind_some e2
    cases e4
    unfold seqD at e3
    split at e3
    · cases e3
      refine .inl ⟨O, ρ, _, gd, e1, fun v H1 s1 r1 => ?_⟩
      simp only [Rep] at r1
      obtain ⟨a, vs, rfl, no, ha, r⟩ := r1
      exact ⟨a, vs, rfl, .of ha, q _ H1 s1 (src_enL no ha r)⟩
    · cases e3
      refine .inr ⟨O, ρ, _, gd, e1, fun v H1 s1 r1 => ?_⟩
      simp only [Rep] at r1
      obtain ⟨a, vs, rfl, ha, r⟩ := r1
      exact ⟨a, vs, rfl, .of ha, q _ H1 s1 (src_enT ha r)⟩
    · cases e3⟩
theorem di_zip (hm : X.mg "zip" = none) (h : DP X B .str e g) (h2 : DP X B .str e2 g2) (hg : Gl X "zip" := by rfl) (hs : starEach [e, e2] X.env = (false, eval e X.env) :: starEach [e2] X.env := by rfl) (hs2 : starEach [e2] X.env = (false, eval e2 X.env) :: starEach [] X.env := by rfl) (hpl : (backTo pos (starEach [e2] X.env)).any (·.1) = false := by rfl) :
    DI X B (.Tuple elts kk tpos) (.Call (.Name "zip" p) [e, e2] [] pos) (zipI g g2) :=
  ⟨(RZ.pi_zipA hg hm (pa_cons h.pe (pa_cons h2.pe pa_nil hs2) hs) hs hpl).imp fun σ H R ⟨O, ρ, ds, gd, e, q⟩ => by
    obtain ⟨d1, e1, e'⟩ := bind_some e
    obtain ⟨d2, e2, e3⟩ := bind_some e'
    refine ⟨O, ρ, d1, gd, e1, fun v H1 s1 r1 => ⟨O, ρ, d2, gd.same s1, e2, fun w H2 s2 r2 => ?_⟩⟩
    have r1 := r1.same s2
    unfold zip2 at e3
    split at e3
    · cases e3
      simp only [Rep] at r1 r2
      obtain ⟨a, vs, rfl, no, ha, r1⟩ := r1
      obtain ⟨b, ws, rfl, no2, hb, r2⟩ := r2
      refine ⟨a, b, vs, ws, rfl, .inl ⟨.of ha, .of hb, q _ H2 (s1.trans s2) ?_⟩⟩
      refine src_zip (S1 := fun H xs => H a = some (.lst xs)) (S2 := fun H xs => H b = some (.lst xs)) (G1 := fun O H => ¬ O a ∧ H a = some (.lst vs) ∧ RepL O H _ vs) (G2 := fun O H => ¬ O b ∧ H b = some (.lst ws) ∧ RepL O H _ ws) ⟨no, ha, r1⟩ ⟨no2, hb, r2⟩
        (fun O H O' H' m ⟨h1, h2, h3⟩ => ⟨fun z => (m.out a z).elim h1 (fun q => by rw [h2] at q; cases q), m.keep a _ h2 (.inr h1), RepL.mv m _ _ h3⟩)
        (fun O H O' H' m ⟨h1, h2, h3⟩ => ⟨fun z => (m.out b z).elim h1 (fun q => by rw [h2] at q; cases q), m.keep b _ h2 (.inr h1), RepL.mv m _ _ h3⟩)
        (fun O H h => h.2) (fun O H h => h.2) (fun i H x y h1 h2 e1 e2 => ⟨vs, ws, x, y, .of h1, .of h2, e1, e2⟩) (fun i H h1 h2 h => ⟨vs, ws, .of h1, .of h2, h⟩) fun i H v H' h1 h2 y => ?_
      obtain ⟨T, x, y, h3, h4, h5, h6, h7⟩ := y
      exact ⟨T, x, y, h3, h4, h5, h6 vs (.of h1), h7 ws (.of h2)⟩
    · cases e3
      simp only [Rep] at r1 r2
      obtain ⟨a, vs, rfl, ha, r1⟩ := r1
      obtain ⟨b, ws, rfl, hb, r2⟩ := r2
      refine ⟨a, b, vs, ws, rfl, .inr ⟨.of ha, .of hb, q _ H2 (s1.trans s2) ?_⟩⟩
      refine src_zip (S1 := fun H xs => H a = some (.tup xs)) (S2 := fun H xs => H b = some (.tup xs)) (G1 := fun O H => H a = some (.tup vs) ∧ RepL O H _ vs) (G2 := fun O H => H b = some (.tup ws) ∧ RepL O H _ ws) ⟨ha, r1⟩ ⟨hb, r2⟩
        (fun O H O' H' m ⟨h2, h3⟩ => ⟨m.keep a _ h2 (.inl fun us z => by cases z), RepL.mv m _ _ h3⟩)
        (fun O H O' H' m ⟨h2, h3⟩ => ⟨m.keep b _ h2 (.inl fun us z => by cases z), RepL.mv m _ _ h3⟩)
        (fun O H h => h) (fun O H h => h) (fun i H x y h1 h2 e1 e2 => ⟨vs, ws, x, y, .of h1, .of h2, e1, e2⟩) (fun i H h1 h2 h => ⟨vs, ws, .of h1, .of h2, h⟩) fun i H v H' h1 h2 y => ?_
      obtain ⟨T, x, y, h3, h4, h5, h6, h7⟩ := y
      exact ⟨T, x, y, h3, h4, h5, h6 vs (.of h1), h7 ws (.of h2)⟩
    · cases e3⟩
end
/-! ## comprehensions -/
def SrcC (O : Addr → Prop) (H : Hp) (J : It) (ds : List D) : Prop := ∀ O' H', Same H H' → (∀ b, O' b → O b ∨ H b = none) → Otr O' H' → (∀ i, i < ds.length → J.go i H') ∧ J.stop ds.length H' ∧
  ∀ i x H2, i < ds.length → J.yld i H' x H2 → ∃ d, ds[i]? = some d ∧ Same H' H2 ∧ Rep O' H2 d x
def tItC (B : Base) (gs : Rho → Option (List D)) : TI := fun σ H R => ∃ O ρ ds, Good B O σ H ρ ∧ gs ρ = some ds ∧ ∀ J H', Same H H' → SrcC O H' J ds → R J H'
structure DIC (X : Cx) (B : Base) (tg e : Expr) (gs : Rho → Option (List D)) : Prop where
  pi : PI X tg e (tItC B gs)
structure DTs (X : Cx) (B : Base) (ifs : List Expr) (g : Rho → Option Bool) : Prop where
  pts : PTs X ifs (tPT B g)
@[simp] def yesT : Rho → Option Bool := fun _ => some true
def wipeR (ρ : Rho) : List Nat → Rho
  | [] => ρ
  | v :: vs => (wipeR ρ vs).set v .nil
def compL (b : D → Rho → Option Rho) (t : Rho → Option Bool) (g : Rho → Option D) (ρ : Rho) : List D → Option (List D)
  | [] => some []
  | d :: ds => (b d ρ).bind fun ρ1 => (t ρ1).bind fun c => if c = true then (g ρ1).bind fun e => (compL b t g ρ ds).bind fun es => some (e :: es) else compL b t g ρ ds
@[simp] def lcD (gs : Rho → Option (List D)) (vs : List Nat) (b : D → Rho → Option Rho) (t : Rho → Option Bool) (g : Rho → Option D) : Rho → Option D := fun ρ => (gs ρ).bind fun ds => if ds.length ≤ 100000 then (compL b t g (wipeR ρ vs) ds).bind fun es => some (.list es) else none
theorem Src.toC {O : Addr → Prop} {H : Hp} {J : It} {ds : List D} (s : Src O H J ds) : SrcC O H J ds := by
  obtain ⟨G, g0, gm, ggo, gst, gy⟩ := s
  intro O' H' sm out t
  have g1 := gm O H O' H' ⟨fun b o e _ n => sm.keep b o e n, out⟩ g0
  exact ⟨fun i hi => ggo i O' H' hi g1, gst O' H' g1, fun i x H2 hi y => gy i O' H' x H2 hi t g1 y⟩
section
variable {B : Base} {O : Addr → Prop} {σ : St} {H H' : Hp} {ρ : Rho}
theorem Good.setNil (g : Good B O σ H ρ) (i : Nat) : Good B O (σ.set i Option.none) H (ρ.set i .nil) ∧ ∀ b, Wof (σ.set i Option.none) (ρ.set i .nil) b → Wof σ ρ b := by
  have hw : ∀ (j : Nat) s, (ρ.set i .nil)[j]? = some s → isOwn s = true → i ≠ j ∧ ρ[j]? = some s := fun j s e q => by
    by_cases hj : i = j
    · subst hj
      by_cases hl : i < ρ.length
      · rw [List.getElem?_set_self hl] at e; cases e; cases q
      · rw [List.getElem?_eq_none (by simpa using hl)] at e; cases e
    · exact ⟨hj, by rw [get_set_ne hj] at e; exact e⟩
  refine ⟨⟨by simp [g.len], g.frame, g.o0, g.r0, g.osub, g.otrk, g.h0, fun j s e => ?_, fun j k s t b e1 e2 q1 q2 e3 e4 => ?_⟩, fun b ⟨j, s, e, q, e3⟩ => ?_⟩
  · by_cases hj : i = j
    · subst hj
      by_cases hl : i < ρ.length
      · rw [List.getElem?_set_self hl] at e
        cases e
        trivial
      · rw [List.getElem?_eq_none (by simpa using hl)] at e; cases e
    · rw [get_set_ne hj] at e
      rw [get_set_ne hj]
      exact g.slots j s e
  · obtain ⟨h1, k1⟩ := hw j s e1 q1
    obtain ⟨h2, k2⟩ := hw k t e2 q2
    rw [get_set_ne h1] at e3
    rw [get_set_ne h2] at e4
    exact g.sep j k s t b k1 k2 q1 q2 e3 e4
  · obtain ⟨h1, k1⟩ := hw j s e q
    rw [get_set_ne h1] at e3
    exact ⟨j, s, k1, q, e3⟩
theorem Good.wipe (g : Good B O σ H ρ) : ∀ vs : List Nat, Good B O (wipe σ vs) H (wipeR ρ vs) ∧ ∀ b, Wof (L2.wipe σ vs) (wipeR ρ vs) b → Wof σ ρ b
  | [] => ⟨g, fun _ h => h⟩
  | v :: vs => by
    obtain ⟨h1, h2⟩ := g.wipe vs
    obtain ⟨h3, h4⟩ := h1.setNil v
    exact ⟨h3, fun b h => h2 b (h4 b h)⟩
theorem wipe_eq : ∀ {vs : List Nat} {σ σ' : St}, σ'.length = σ.length → (∀ j, j ∉ vs → σ'[j]? = σ[j]?) → L2.wipe σ' vs = L2.wipe σ vs
  | [], σ, σ', _, h => by
    apply List.ext_getElem?
    intro j
    exact h j (by simp)
  | v :: vs, σ, σ', hl, h => by
    have hw : ∀ (us : List Nat) (τ : St) (j : Nat), (L2.wipe τ us)[j]? = if j ∈ us then (if j < τ.length then some none else none) else τ[j]? := by
      intro us
      induction us with
      | nil => intro τ j; simp [L2.wipe]
      | cons u us ih =>
        intro τ j
        show ((L2.wipe τ us).set u none)[j]? = _
        by_cases hj : u = j
        · subst hj
          simp only [List.mem_cons, true_or, if_true]
          by_cases hlt : u < τ.length
          · rw [List.getElem?_set_self (by rw [wipe_length]; exact hlt), if_pos hlt]
          · rw [List.getElem?_eq_none (by rw [List.length_set, wipe_length]; omega), if_neg hlt]
        · rw [List.getElem?_set_ne hj, ih τ j]
          have : (j ∈ u :: us) ↔ j ∈ us := by
            simp only [List.mem_cons]
            exact ⟨fun z => z.elim (fun e => absurd e.symm hj) id, .inr⟩
          simp only [this]
    apply List.ext_getElem?
    intro j
    rw [hw, hw, hl]
    split
    · rfl
    · next hn => exact h j hn
theorem wipe_wipe (σ : St) (vs : List Nat) : L2.wipe (L2.wipe σ vs) vs = L2.wipe σ vs := by
  refine wipe_eq (by rw [wipe_length]) fun j hj => wipe_out hj
/-- a change at a list that nothing but the builder holds -/
theorem Good.at (g : Good B O σ H ρ) {Dl : Addr} {us : List V} (hD : O Dl) (hB : B.H0 Dl = Option.none) (hW : ¬ Wof σ ρ Dl) (hl : ∃ vs, H Dl = some (.lst vs)) : Good B O σ (upd H Dl (.lst us)) ρ := by
  have mv : Mv O H O (upd H Dl (.lst us)) := ⟨fun b o e q _ => by
    rw [upd_ne]
    · exact e
    · rintro rfl
      obtain ⟨vs, h⟩ := hl
      rw [h] at e
      cases e
      rcases q with q | q
      · exact q vs rfl
      · exact q hD, fun _ h => .inl h⟩
  have ne : ∀ b, H b ≠ Option.none → upd H Dl (.lst us) b ≠ Option.none := fun b h => by
    by_cases e : b = Dl
    · rw [e]; exact some_ne upd_same
    · rw [upd_ne e]; exact h
  refine ⟨g.len, g.frame.put hB (by obtain ⟨vs, h⟩ := hl; exact .lst h), g.o0, g.r0, g.osub, fun b h => ne b (g.otrk b h), fun b h => ne b (g.h0 b h), fun i t e => ?_, g.sep⟩
  · have k := g.slots i t e
    cases t with
    | nil => trivial
    | dat d => exact SlOk.mv mv rfl k
    | own ds =>
      obtain ⟨a, vs, e1, h1, h2, h3, h4, r⟩ := k
      have : a ≠ Dl := by rintro rfl; exact hW ⟨i, _, e, rfl, e1⟩
      exact ⟨a, vs, e1, h1, h2, h3, by rw [upd_ne this]; exact h4, RepL.mv mv _ _ r⟩
    | bag ds =>
      obtain ⟨a, vs, e1, h1, h2, h4, r⟩ := k
      have : a ≠ Dl := by rintro rfl; exact hW ⟨i, _, e, rfl, e1⟩
      exact ⟨a, vs, e1, h1, h2, by rw [upd_ne this]; exact h4, RepL.mv mv _ _ r⟩
    | raw v => exact k
    | lam ks => exact SlOk.mv mv rfl k
    | doc C x l rl sts =>
      have hb : l ≠ Dl := by rintro rfl; exact hW ⟨i, _, e, rfl, rfl⟩
      exact SlOk.mvD mv id (fun us e => by rw [upd_ne hb]; exact e) k
end
theorem lc_imp {B : Base} {gs : Rho → Option (List D)} {vs is : List Nat} {b : D → Rho → Option Rho} {t : Rho → Option Bool} {g : Rho → Option D} (his : ∀ i ∈ is, i ∈ vs) {σ : St} {H : Hp} {Q : VK}
    (h : ∃ O ρ es, Good B O σ H ρ ∧ lcD gs vs b t g ρ = some (.list es) ∧ ∀ a us H', Same H H' → H a = none → H' a = some (.lst us) → RepL (fun b => O b ∨ b = a) H' es us → Q (.ref a) H') :
    tLc (tItC B gs) (tG B is b) (tPT B t) (tP B .str g) vs σ H Q := by
  obtain ⟨O, ρ, tot, gd, e, q⟩ := h
  obtain ⟨ds, e1, e2⟩ := bind_some e
  split at e2
  case isFalse => cases e2
  next hlen =>
  obtain ⟨es, e3, e4⟩ := bind_some e2
  cases e4
  refine ⟨O, ρ, ds, gd, e1, fun J H1 s1 src Dl hD => ?_⟩
  have g1 := gd.same s1
  obtain ⟨nD, nD0, hD0⟩ := g1.fresh hD
  have sD : Same H1 (upd H1 Dl (.lst [])) := same_upd hD
  obtain ⟨gw, ww⟩ := g1.wipe vs
  have g2 : Good B (fun b => O b ∨ b ∈ [Dl]) (wipe σ vs) (upd H1 Dl (.lst [])) (wipeR ρ vs) := gw.more sD (fun b hb => by
    have : b = Dl := by simpa using hb
    rw [this]; exact hD) fun b hb => by
    have : b = Dl := by simpa using hb
    rw [this]; exact some_ne upd_same
  have nW : ¬ Wof (wipe σ vs) (wipeR ρ vs) Dl := fun z => nD (gw.wof z).1
  refine ⟨fun i n Hi => n = ds.length - i ∧ i ≤ ds.length ∧ ∃ acc fs rest, Hi Dl = some (.lst acc) ∧ Same H1 Hi ∧ Good B (fun b => O b ∨ b ∈ [Dl]) (wipe σ vs) Hi (wipeR ρ vs) ∧ RepL (fun b => O b ∨ b = Dl) Hi fs acc ∧ acc.length ≤ i ∧ compL b t g (wipeR ρ vs) (ds.drop i) = some rest ∧ fs ++ rest = tot,
    ⟨ds.length, by simp, Nat.zero_le _, [], [], tot, upd_same, sD, g2, .nil, Nat.le_refl _, by simpa using e3, rfl⟩, ?_⟩
  rintro i n Hi ⟨rfl, hi, acc, fs, rest, hacc, sHi, gi, rfs, hal, ec, etot⟩
  obtain ⟨sgo, sst, sy⟩ := src (fun b => O b ∨ b ∈ [Dl]) Hi sHi (fun b h => h.elim .inl fun z => .inr (by
    have : b = Dl := by simpa using z
    rw [this]; exact hD)) gi.otrk
  by_cases hlt : i < ds.length
  · rw [List.drop_eq_getElem_cons hlt] at ec
    obtain ⟨ρ1, c1, c2⟩ := bind_some ec
    obtain ⟨k, c3, c4⟩ := bind_some c2
    refine .inr ⟨sgo i hlt, fun Hn => i + 1 ≤ ds.length ∧ ∃ acc fs rest, Hn Dl = some (.lst acc) ∧ Same H1 Hn ∧ Good B (fun b => O b ∨ b ∈ [Dl]) (wipe σ vs) Hn (wipeR ρ vs) ∧ RepL (fun b => O b ∨ b = Dl) Hn fs acc ∧ acc.length ≤ i + 1 ∧ compL b t g (wipeR ρ vs) (ds.drop (i + 1)) = some rest ∧ fs ++ rest = tot,
      fun Hn ⟨h1, h2⟩ => ⟨ds.length - (i + 1), by omega, rfl, h1, h2⟩, fun x H2 y => ?_⟩
    obtain ⟨d, ed, s2, rx⟩ := sy i x H2 hlt y
    have ed2 : ds[i] = d := by
      rw [List.getElem?_eq_getElem hlt] at ed
      exact Option.some.inj ed
    subst ed2
    refine ⟨_, wipeR ρ vs, _, ρ1, gi.same s2, rx, c1, fun σ2 g3 w3 hσ hl2 => ?_⟩
    have hDi : Hi Dl = some (.lst acc) := hacc
    have nW2 : ¬ Wof σ2 ρ1 Dl := fun z => nW (w3 Dl z)
    have szl : acc.length < sizeLine := by rw [sizeLine_eq]; omega
    refine ⟨(wipe_eq hl2 fun j hj => hσ j fun z => hj (his j z)).trans (wipe_wipe σ vs), (fun b => O b ∨ b ∈ [Dl]), ρ1, k, g3, c3, fun H3 s3 => ?_⟩
    have s13 : Same H1 H3 := (sHi.trans s2).trans s3
    cases k with
    | false =>
      refine ⟨hlt, acc, fs, rest, s3 _ _ (s2 _ _ hDi), s13, gi.same (s2.trans s3), rfs.same (s2.trans s3), by omega, c4, etot⟩
    | true =>
      obtain ⟨z, c5, c6⟩ := bind_some c4
      obtain ⟨rest', c7, c8⟩ := bind_some c6
      cases c8
      refine ⟨_, ρ1, z, g3.same s3, c5, fun yv H4 s4 ry => ?_⟩
      have hD4 : H4 Dl = some (.lst acc) := s4 _ _ (s3 _ _ (s2 _ _ hDi))
      refine ⟨acc, hD4, szl, hlt, acc ++ [yv], fs ++ [z], rest', upd_same, (s13.trans s4).put hD (.lst hD4), ?_, ?_, by rw [List.length_append]; simp; omega, c7, by rw [List.append_assoc]; exact etot⟩
      · exact (gi.same ((s2.trans s3).trans s4)).at (.inr (by simp)) hD0 nW ⟨acc, hD4⟩
      · have r0 : RepL (fun b => O b ∨ b = Dl) H4 (fs ++ [z]) (acc ++ [yv]) := (rfs.same ((s2.trans s3).trans s4)).append (.one (ry.less fun b h => h.elim .inl fun e => .inr (by simp [e])))
        refine RepL.mv ⟨fun b o e q _ => ?_, fun b h => .inl h⟩ _ _ r0
        rw [upd_ne]
        · exact e
        · rintro rfl
          rw [hD4] at e
          cases e
          rcases q with q | q
          · exact q acc rfl
          · exact q (.inr rfl)
  · have en : i = ds.length := by omega
    subst en
    rw [List.drop_length] at ec
    cases ec
    rw [List.append_nil] at etot
    subst etot
    have : RepL (fun b => O b ∨ b = Dl) Hi fs acc := rfs
    exact .inl ⟨sst, q Dl acc Hi (s1.trans sHi) (s1.free hD) hacc rfs⟩
end DL

namespace DL
open PySem PySem.Spec
open PyProof.Rows hiding St
open L2
/-! ## comprehensions -/
theorem lc_list {gs : Rho → Option (List D)} {vs : List Nat} {b : D → Rho → Option Rho} {t : Rho → Option Bool} {g : Rho → Option D} {ρ : Rho} {d : D} (h : lcD gs vs b t g ρ = some d) : ∃ es, d = .list es := by
  obtain ⟨ds, e1, e2⟩ := bind_some h
  split at e2
  · obtain ⟨es, e3, e4⟩ := bind_some e2
    cases e4
    exact ⟨es, rfl⟩
  · cases e2
theorem rep_fresh {O O' : Addr → Prop} {H' : Hp} {a : Addr} {us : List V} {es : List D} (no : ¬ O a) (s : ∀ b, O b → O' b) (h : H' a = some (.lst us)) (r : RepL O' H' es us) : Rep O H' (.list es) (.ref a) := by
  simp only [Rep]
  exact ⟨a, us, rfl, no, h, r.less s⟩
section
variable {X : Cx} {B : Base} {m : Md} {tg iter elt : Expr} {ifs : List Expr} {scope : Scope} {own : List (Str × Nat)} {is : List Nat} {pos : Pos} {gs : Rho → Option (List D)} {b : D → Rho → Option Rho} {t : Rho → Option Bool} {g : Rho → Option D}
theorem dts_nil : DTs X B [] yesT := ⟨⟨fun pins s σ H Q I ⟨O, ρ, c, gd, e, q⟩ => by
  cases e
  exact pts_nil.run pins s σ H Q I (q H (Same.refl H))⟩⟩
theorem dts_one {c : Expr} (h : DPT X B c t) : DTs X B [c] t := ⟨pts_one h.pt⟩
theorem dic_of (h : DI X B tg iter gs) : DIC X B tg iter gs := ⟨h.pi.imp fun σ H R ⟨O, ρ, ds, gd, e, q⟩ => ⟨O, ρ, ds, gd, e, fun J H' s sr => q J H' s sr.toC⟩⟩
theorem dp_lc (hc : X.calm = true) (hN : X.N.Nodup) (hi : DIC X B tg iter gs) (ok : BlkOk X.N X.env.scope scope own) (his : ∀ i ∈ is, i ∈ own.map (·.2))
    (hg : ∀ (s : Shared) (H : Hp) (C : Addr) (cl : List (Str × Addr)) (fp : List Addr), DG (X.blk s H scope (compEnvC scope cl C X.env) fp) B tg is b)
    (ht : ∀ (s : Shared) (H : Hp) (C : Addr) (cl : List (Str × Addr)) (fp : List Addr), DTs (X.blk s H scope (compEnvC scope cl C X.env) fp) B ifs t)
    (he : ∀ (s : Shared) (H : Hp) (C : Addr) (cl : List (Str × Addr)) (fp : List Addr), DP (X.blk s H scope (compEnvC scope cl C X.env) fp) B .str elt g) (hs : ∀ x, foldedSetIterable iter X.env x = pure x := by intro _; rfl) :
    DP X B m (.ListComp elt [⟨tg, iter, ifs, 0⟩] scope pos) (lcD gs (own.map (·.2)) b t g) :=
  ⟨(pe_lc hc hN hi.pi ok (fun s H C cl fp => (hg s H C cl fp).pg) (fun s H C cl fp => (ht s H C cl fp).pts) (fun s H C cl fp => (he s H C cl fp).pe) hs).imp fun σ H Q ⟨O, ρ, d, gd, e, q⟩ => by
    obtain ⟨es, rfl⟩ := lc_list e
    refine lc_imp his ⟨O, ρ, es, gd, e, fun a us H' s ha ha' r => q _ H' s ?_⟩
    obtain ⟨n1, n2, n3⟩ := gd.fresh ha
    exact rep_fresh (fun z => n1 (gd.mO m a z)) (fun c z => .inl (gd.mO m c z)) ha' r⟩
theorem ds_setLc {i : Nat} {y : Str} {py spos : Pos} (hc : X.calm = true) (hN : X.N.Nodup) (hy : X.N[i]? = some y) (hyl : X.env.scope.names.lookup y = some .local) (hsw : swapsWith (.ListComp elt [⟨tg, iter, ifs, 0⟩] scope pos) (some (.Name y py)) spos.line X.env = pure true)
    (hi : DIC X B tg iter gs) (ok : BlkOk X.N X.env.scope scope own) (his : ∀ i ∈ is, i ∈ own.map (·.2))
    (hg : ∀ (s : Shared) (H : Hp) (C : Addr) (cl : List (Str × Addr)) (fp : List Addr), DG (X.blk s H scope (compEnvC scope cl C X.env) fp) B tg is b)
    (ht : ∀ (s : Shared) (H : Hp) (C : Addr) (cl : List (Str × Addr)) (fp : List Addr), DTs (X.blk s H scope (compEnvC scope cl C X.env) fp) B ifs t)
    (he : ∀ (s : Shared) (H : Hp) (C : Addr) (cl : List (Str × Addr)) (fp : List Addr), DP (X.blk s H scope (compEnvC scope cl C X.env) fp) B .str elt g) (hs : ∀ x, foldedSetIterable iter X.env x = pure x := by intro _; rfl) :
    DS X B (.Assign [.Name y py] (.ListComp elt [⟨tg, iter, ifs, 0⟩] scope pos) spos) (setP i (lcD gs (own.map (·.2)) b t g)) :=
  ⟨(ps_setLc hc hN hy hyl hsw hi.pi ok (fun s H C cl fp => (hg s H C cl fp).pg) (fun s H C cl fp => (ht s H C cl fp).pts) (fun s H C cl fp => (he s H C cl fp).pe) hs).imp fun E σ H ⟨O, ρ, r, gd, e, q⟩ => by
    obtain ⟨d, e1, e2⟩ := bind_some e
    cases e2
    obtain ⟨es, rfl⟩ := lc_list e1
    refine lc_imp his ⟨O, ρ, es, gd, e1, fun a us H' s ha ha' r => ?_⟩
    obtain ⟨n1, n2, n3⟩ := gd.fresh ha
    have rr : Rep O H' (.list es) (.ref a) := rep_fresh n1 (fun c z => .inl z) ha' r
    obtain ⟨g2, w2⟩ := (gd.same s).set (i := i) rr
    exact q _ H' O ⟨.of s, fun _ h => .inl h, fun _ h => h, fun b h => .inl (w2 b h)⟩ g2⟩
theorem ds_ownLc {i : Nat} {y : Str} {py spos : Pos} (hc : X.calm = true) (hN : X.N.Nodup) (hy : X.N[i]? = some y) (hyl : X.env.scope.names.lookup y = some .local) (hsw : swapsWith (.ListComp elt [⟨tg, iter, ifs, 0⟩] scope pos) (some (.Name y py)) spos.line X.env = pure true)
    (hi : DIC X B tg iter gs) (ok : BlkOk X.N X.env.scope scope own) (his : ∀ i ∈ is, i ∈ own.map (·.2))
    (hg : ∀ (s : Shared) (H : Hp) (C : Addr) (cl : List (Str × Addr)) (fp : List Addr), DG (X.blk s H scope (compEnvC scope cl C X.env) fp) B tg is b)
    (ht : ∀ (s : Shared) (H : Hp) (C : Addr) (cl : List (Str × Addr)) (fp : List Addr), DTs (X.blk s H scope (compEnvC scope cl C X.env) fp) B ifs t)
    (he : ∀ (s : Shared) (H : Hp) (C : Addr) (cl : List (Str × Addr)) (fp : List Addr), DP (X.blk s H scope (compEnvC scope cl C X.env) fp) B .str elt g) (hs : ∀ x, foldedSetIterable iter X.env x = pure x := by intro _; rfl) :
    DS X B (.Assign [.Name y py] (.ListComp elt [⟨tg, iter, ifs, 0⟩] scope pos) spos) (setO i (lcD gs (own.map (·.2)) b t g)) :=
  ⟨(ps_setLc hc hN hy hyl hsw hi.pi ok (fun s H C cl fp => (hg s H C cl fp).pg) (fun s H C cl fp => (ht s H C cl fp).pts) (fun s H C cl fp => (he s H C cl fp).pe) hs).imp fun E σ H ⟨O, ρ, r, gd, e, q⟩ => by
    obtain ⟨d, e1, e2⟩ := bind_some e
    obtain ⟨es, rfl⟩ := lc_list e1
    cases e2
    refine lc_imp his ⟨O, ρ, es, gd, e1, fun a us H' s ha ha' r => ?_⟩
    obtain ⟨g2, s2⟩ := gd.setOwn (i := i) s ha ha' r
    exact q _ H' _ s2 g2⟩
end
/-! ## a list of one's own as a source -/
@[simp] def ownI (i : Nat) : Rho → Option (List D) := fun ρ => (ρ[i]?).bind fun t => (ownOf t).bind fun es => if immL es = true then some es else none
section
variable {X : Cx} {B : Base} {m : Md} {tg e : Expr} {g : Rho → Option D} {pos p p' : Pos}
theorem srcC_list {K : PySem.W.Frag} {O : Addr → Prop} {H : Hp} {a : Addr} {vs : List V} {ds : List D} (ha : H a = some (.lst vs)) (r : RepL O H ds vs) (hi : immL ds = true) : SrcC O H (Itl K a) ds := by
  intro O' H' s out t
  have hl := r.length
  have ha' := s a _ ha
  refine ⟨fun i hi => ⟨vs, vs[i], .of ha', by simp [← hl, hi]⟩, ⟨vs, .of ha', by rw [hl]; exact Nat.le_refl _⟩, fun i x H2 hi' y => ?_⟩
  obtain ⟨e, y⟩ := y
  subst e
  obtain ⟨d, e1, r1⟩ := (RepL.imm (O' := O') hi (r.same s)).getV (y vs (.of ha'))
  exact ⟨d, e1, Same.refl _, r1⟩
theorem dic_own {i : Nat} {x : Str} (hN : X.N[i]? = some x) (hv : Vis X.env.scope x := by first | exact Or.inl rfl | exact Or.inr (Or.inl rfl) | exact Or.inr (Or.inr rfl)) (hd : (x == ("__debug__" : Str)) = false := by decide)
    (hcd : (x == ("__classdict__" : Str)) = false := by decide) : DIC X B tg (.Name x pos) (ownI i) := ⟨(pi_list (pv i hN hv hd hcd)).imp fun σ H R ⟨O, ρ, ds, gd, e, q⟩ => by
  obtain ⟨t, e1, e2⟩ := bind_some e
  obtain ⟨es, e3, e4⟩ := bind_some e2
  split at e4
  · next hi =>
    cases e4
    obtain ⟨a, vs, h1, h2, h3, h4⟩ := gd.ownAt e1 e3
    exact ⟨_, h1, a, rfl, ⟨vs, .of h3⟩, q _ H (Same.refl H) (srcC_list h3 h4 hi)⟩
  · cases e4⟩
end
/-! ## fresh lists -/
@[simp] def freS : Sl → Sl
  | .dat d => if imm d = true then .dat d else .nil
  | .own ds => if immL ds = true then .own ds else .nil
  | .bag ds => if immL ds = true then .bag ds else .nil
  | .raw v => .raw v
  | .lam _ => .nil
  | .doc _ _ _ _ _ => .nil
  | .nil => .nil
@[simp] def freR (ρ : Rho) : Rho := ρ.map freS
@[simp] def immLi : D → Option D
  | .list ds => if immL ds = true then some (.list ds) else none
  | _ => none
@[simp] def freD (g : Rho → Option D) : Rho → Option D := fun ρ => (g (freR ρ)).bind immLi
structure DF (X : Cx) (B : Base) (e : Expr) (g : Rho → Option D) : Prop where
  pe : PE X e (fun σ H Q => ∃ O ρ ds, Good B O σ H ρ ∧ g ρ = some (.list ds) ∧ ∀ a us H', Same H H' → H a = none → H' a = some (.lst us) → RepL (fun b => O b ∨ b = a) H' ds us → Q (.ref a) H')
theorem Good.fre {B : Base} {O : Addr → Prop} {σ : St} {H : Hp} {ρ : Rho} (g : Good B O σ H ρ) : Good B (fun b => H b ≠ Option.none) σ H (freR ρ) := by
  have hw : ∀ (j : Nat) s, (freR ρ)[j]? = some s → ∃ t, ρ[j]? = some t ∧ freS t = s := fun j s e => by
    unfold freR at e
    rw [List.getElem?_map] at e
    cases h : ρ[j]? with
    | none => rw [h] at e; cases e
    | some t => rw [h] at e; cases e; exact ⟨t, rfl, rfl⟩
  have ho : ∀ t, isOwn (freS t) = true → isOwn t = true := fun t q => by
    cases t with
    | nil => cases q
    | dat d =>
      simp only [freS] at q
      by_cases h : imm d = true
      · rw [if_pos h] at q; cases q
      · rw [if_neg h] at q; cases q
    | own ds => rfl
    | bag ds => rfl
    | raw v => cases q
    | lam _ => cases q
    | doc _ _ _ _ _ => cases q
  have hd : ∀ t (o : Option (Option V)) b, isOwn (freS t) = true → adr (freS t) o b → adr t o b := fun t o b q z => by
    cases t with
    | nil => cases q
    | dat d =>
      simp only [freS] at q
      by_cases h : imm d = true
      · rw [if_pos h] at q; cases q
      · rw [if_neg h] at q; cases q
    | own ds =>
      simp only [freS] at q z
      by_cases h : immL ds = true
      · rw [if_pos h] at z; exact z
      · rw [if_neg h] at q; cases q
    | bag ds =>
      simp only [freS] at q z
      by_cases h : immL ds = true
      · rw [if_pos h] at z; exact z
      · rw [if_neg h] at q; cases q
    | raw v => cases q
    | lam _ => cases q
    | doc _ _ _ _ _ => cases q
  refine ⟨by simp [g.len], g.frame, g.o0, g.r0, fun b h => g.otrk b (g.osub b h), fun b h => h, g.h0, fun j s e => ?_, fun j k s u b e1 e2 q1 q2 e3 e4 => ?_⟩
  · obtain ⟨t, e1, rfl⟩ := hw j s e
    have k := g.slots j t e1
    cases t with
    | nil => trivial
    | raw v => exact k
    | lam _ => trivial
    | doc _ _ _ _ _ => trivial
    | dat d =>
      simp only [freS]
      by_cases hi : imm d = true
      · rw [if_pos hi]
        obtain ⟨v, h1, r⟩ := k
        exact ⟨v, h1, r.imm hi⟩
      · rw [if_neg hi]; trivial
    | own ds =>
      simp only [freS]
      by_cases hi : immL ds = true
      · rw [if_pos hi]
        obtain ⟨a, vs, h1, h2, h3, h4, h5, r⟩ := k
        exact ⟨a, vs, h1, some_ne h5, h3, h4, h5, r.imm hi⟩
      · rw [if_neg hi]; trivial
    | bag ds =>
      simp only [freS]
      by_cases hi : immL ds = true
      · rw [if_pos hi]
        obtain ⟨a, vs, h1, h2, h3, h5, r⟩ := k
        exact ⟨a, vs, h1, h2, some_ne h5, h5, r.imm hi⟩
      · rw [if_neg hi]; trivial
  · obtain ⟨t1, f1, rfl⟩ := hw j s e1
    obtain ⟨t2, f2, rfl⟩ := hw k u e2
    exact g.sep j k t1 t2 b f1 f2 (ho _ q1) (ho _ q2) (hd _ _ _ q1 e3) (hd _ _ _ q2 e4)
section
variable {X : Cx} {B : Base} {e : Expr} {es : List Expr} {g : Rho → Option D} {gs : Rho → Option (List D)} {pos p' : Pos}
theorem df_of (h : DP X B .str e g) : DF X B e (freD g) := ⟨h.pe.imp fun σ H Q ⟨O, ρ, ds, gd, e, q⟩ => by
  obtain ⟨d, e1, e2⟩ := bind_some e
  unfold immLi at e2
  split at e2
  · split at e2
    · next hi =>
      cases e2
      refine ⟨_, _, _, gd.fre, e1, fun v H' s r => ?_⟩
      simp only [Md.O, Rep] at r
      obtain ⟨a, us, rfl, no, ha, r⟩ := r
      have hn : H a = none := by
        cases h : H a with
        | none => rfl
        | some o => exact absurd (some_ne h) no
      exact q a us H' s hn ha (r.imm hi)
    · cases e2
  · cases e2⟩
theorem df_lst (ha : DPA X B .str es gs) : DF X B (.List es pos) (nD gs lstD) := ⟨(pe_lst ha.pa).imp fun σ H Q ⟨O, ρ, ds, gd, e, q⟩ => by
  obtain ⟨ds', e1, e2⟩ := bind_some e
  unfold lstD at e2
  split at e2
  · next hl =>
    cases e2
    refine ⟨O, ρ, _, gd, e1, fun vs H1 s1 r1 => ⟨line_le (by rw [← r1.length]; exact hl), fun p hp => ?_⟩⟩
    refine q p vs _ (s1.trans (same_upd hp)) (s1.free hp) upd_same (rep_upd hp (RepL.mv (.fresh hp) _ _ r1))
  · cases e2⟩
theorem ds_own {i : Nat} {x : Str} (hN : X.N.Nodup) (hi : X.N[i]? = some x) (hx : Loc X.env.scope x) (he : DF X B e g) (hs : swapsWith e (some (.Name x p')) pos.line X.env = pure false := by rfl) (hf : X.fn x = true ∨ X.env.scope.names.lookup x = some .local := by first | exact .inl rfl | exact .inr rfl | assumption) :
    DS X B (.Assign [.Name x p'] e pos) (setO i g) := ⟨(ps_set hN hi hx he.pe hs hf).imp fun E σ H ⟨O, ρ, r, gd, e, q⟩ => by
  obtain ⟨d, e1, e2⟩ := bind_some e
  cases d with
  | list ds =>
    cases e2
    refine ⟨O, ρ, ds, gd, e1, fun a us H' s ha ha' r => ?_⟩
    obtain ⟨g2, s2⟩ := gd.setOwn (i := i) s ha ha' r
    exact q _ H' _ s2 g2
  | _ => cases e2⟩
end
/-! ## a def at depth none -/
theorem fn_zero {P : Program} {w : World} {K : PySem.W.Frag} {mg : Str → Option Value} {base : Heap} {x : Str} {st : Stmt} {f : Addr} {fd : FuncData} {N ps : List Str} (F : L2.Fun K x x st f fd) (S : FnScope N ps (defScope st)) (bi : Binds K fd ps []) (hm : mg x = some (.ref f)) :
    Fn P w K mg base 1 x (fun _ => none) :=
  ⟨f, fd, ps, F.ok (k := 0) (N := N) (sp := spP fun _ => none) S (fun vs H Q E h => by obtain ⟨O, ds, d, t, r, e, q⟩ := h; cases e) (fun cdv A outer s H vs Q E hr h => by obtain ⟨O, ds, d, t, r, e, q⟩ := h; cases e), hm, F.kp, bi⟩
end DL

namespace DL
open PySem PySem.Spec
open PyProof.Rows hiding St
open L2
/-! ## slices -/
def cutD (xs : List D) (lo hi : Option Int) : List D := (xs.drop (HT.sIx xs.length 0 lo)).take (HT.sIx xs.length xs.length hi - HT.sIx xs.length 0 lo)
structure DPO (X : Cx) (B : Base) (m : Md) (e : Option Expr) (g : Rho → Option (Option Int)) : Prop where
  po : PO X e (fun σ H Q => ∃ O ρ o, Good B O σ H ρ ∧ g ρ = some o ∧ ∀ H', Same H H' → Q o H')
@[simp] def noO : Rho → Option (Option Int) := fun _ => some none
@[simp] def soO (g : Rho → Option D) : Rho → Option (Option Int) := fun ρ => (g ρ).bind fun d => (asInt d).bind fun i => some (some i)
@[simp] def slcD : D → Option Int → Option Int → Option D
  | .list xs, lo, hi => some (.list (cutD xs lo hi))
  | .tuple xs, lo, hi => some (.tuple (cutD xs lo hi))
  | _, _, _ => none
@[simp] def slD (g : Rho → Option D) (gl gh : Rho → Option (Option Int)) : Rho → Option D := fun ρ => (g ρ).bind fun d => (gl ρ).bind fun lo => (gh ρ).bind fun hi => slcD d lo hi
@[simp] def revD : D → Option D
  | .list xs => some (.list xs.reverse)
  | _ => none
theorem asInt_some {d : D} {i : Int} (h : asInt d = some i) : d = .int i := by
  unfold asInt at h
  split at h
  · cases h; rfl
  · cases h
theorem cut_rep {O : Addr → Prop} {H : Hp} {xs : List D} {vs : List V} {lo hi : Option Int} (r : RepL O H xs vs) : RepL O H (cutD xs lo hi) (cutV vs lo hi) := by
  unfold cutD cutV
  rw [r.length]
  exact (r.drop _).take _
theorem _root_.L2.PO.imp {X : Cx} {e : Option Expr} {t t' : TO} (h : PO X e t) (i : ∀ σ H Q, t' σ H Q → t σ H Q) : PO X e t' := ⟨fun pins s σ H Q I q => h.run pins s σ H Q I (i σ H Q q)⟩
section
variable {X : Cx} {B : Base} {m : Md} {e : Expr} {lo hi : Option Expr} {g : Rho → Option D} {gl gh : Rho → Option (Option Int)} {pos p2 : Pos}
theorem do_none : DPO X B m none noO := ⟨po_none.imp fun σ H Q ⟨O, ρ, o, gd, e, q⟩ => by
  cases e
  exact q H (Same.refl H)⟩
theorem do_some (h : DP X B m e g) : DPO X B m (some e) (soO g) := ⟨(po_some h.pe).imp fun σ H Q ⟨O, ρ, o, gd, e, q⟩ => by
  obtain ⟨d, e1, e2⟩ := bind_some e
  obtain ⟨i, e3, e4⟩ := bind_some e2
  cases asInt_some e3
  cases e4
  exact ⟨O, ρ, _, gd, e1, fun v H1 s1 r1 => ⟨i, rep_int.mp r1, q H1 s1⟩⟩⟩
theorem dp_slice (he : DP X B m e g) (hl : DPO X B m lo gl) (hh : DPO X B m hi gh) : DP X B m (.Subscript e (.Slice lo hi none p2) pos) (slD g gl gh) :=
  ⟨(pe_slice (sl_list.or sl_tupA) he.pe hl.po hh.po).imp fun σ H Q ⟨O, ρ, d, gd, e, q⟩ => by
    obtain ⟨x, e1, e'⟩ := bind_some e
    obtain ⟨l, e2, e''⟩ := bind_some e'
    obtain ⟨h, e3, e4⟩ := bind_some e''
    refine ⟨O, ρ, x, gd, e1, fun v H1 s1 r1 => ⟨O, ρ, l, gd.same s1, e2, fun H2 s2 => ⟨O, ρ, h, gd.same (s1.trans s2), e3, fun H3 s3 => ?_⟩⟩⟩
    have s13 := (s1.trans s2).trans s3
    have r3 := (r1.same s2).same s3
    unfold slcD at e4
    split at e4
    · cases e4
      simp only [Rep] at r3
      obtain ⟨a, vs, rfl, no, ha, r⟩ := r3
      exact .inl ⟨a, vs, rfl, .of ha, fun p hp => q _ _ (s13.trans (same_upd hp)) (rep_lst ((gd.same s13).otr m) hp (cut_rep r))⟩
    · cases e4
      simp only [Rep] at r3
      obtain ⟨a, vs, rfl, ha, r⟩ := r3
      refine .inr ⟨a, vs, rfl, .of ha, fun hw => ?_, fun _ p hp => q _ _ (s13.trans (same_upd hp)) (rep_tup hp (cut_rep r))⟩
      refine q _ H3 s13 ?_
      have hc : cutV vs l h = vs := by
        unfold cutV
        rw [hw.1, hw.2]
        simp
      have := cut_rep (lo := l) (hi := h) r
      rw [hc] at this
      simp only [Rep]
      exact ⟨a, vs, rfl, ha, this⟩
    · cases e4⟩
theorem dp_rev {k : Nat} {p1 p3 p4 : Pos} (he : DP X B m e g) : DP X B m (.Subscript e (.Slice none none (some (.UnaryOp .USub (.Constant (.int 1) k p1) p4)) p3) pos) (b1D g revD) :=
  ⟨(pe_revL he.pe).imp fun σ H Q ⟨O, ρ, d, gd, e, q⟩ => by
    obtain ⟨x, e1, e2⟩ := bind_some e
    refine ⟨O, ρ, x, gd, e1, fun v H1 s1 r1 => ?_⟩
    unfold revD at e2
    split at e2
    · cases e2
      simp only [Rep] at r1
      obtain ⟨a, vs, rfl, no, ha, r⟩ := r1
      exact ⟨a, vs, rfl, .of ha, fun p hp => q _ _ (s1.trans (same_upd hp)) (rep_lst ((gd.same s1).otr m) hp r.reverse)⟩
    · cases e2⟩
end
/-! ## lists of ints and of bools -/
@[simp] def boolsOf : List D → Option (List Bool)
  | [] => some []
  | .bool b :: ds => (boolsOf ds).bind fun bs => some (b :: bs)
  | _ :: _ => none
@[simp] def intsOf : List D → Option (List Int)
  | [] => some []
  | .int b :: ds => (intsOf ds).bind fun bs => some (b :: bs)
  | _ :: _ => none
theorem bools_rep {O : Addr → Prop} {H : Hp} : ∀ {ds : List D} {vs : List V} {bs : List Bool}, RepL O H ds vs → boolsOf ds = some bs → vs = bs.map V.bl
  | [], vs, bs, r, h => by simp only [boolsOf] at h; cases h; simp only [RepL] at r; subst r; rfl
  | d :: ds, vs, bs, r, h => by
    simp only [RepL] at r
    obtain ⟨v, us, rfl, r1, r2⟩ := r
    unfold boolsOf at h
    split at h
    · cases (by assumption : d :: ds = _)
    · next q =>
      cases q
      obtain ⟨cs, h1, h2⟩ := bind_some h
      cases h2
      rw [rep_bool.mp r1, bools_rep r2 h1]
      rfl
    · cases h
theorem ints_rep {O : Addr → Prop} {H : Hp} : ∀ {ds : List D} {vs : List V} {bs : List Int}, RepL O H ds vs → intsOf ds = some bs → vs = bs.map V.int
  | [], vs, bs, r, h => by simp only [intsOf] at h; cases h; simp only [RepL] at r; subst r; rfl
  | d :: ds, vs, bs, r, h => by
    simp only [RepL] at r
    obtain ⟨v, us, rfl, r1, r2⟩ := r
    unfold intsOf at h
    split at h
    · cases (by assumption : d :: ds = _)
    · next q =>
      cases q
      obtain ⟨cs, h1, h2⟩ := bind_some h
      cases h2
      rw [rep_int.mp r1, ints_rep r2 h1]
      rfl
    · cases h
theorem rep_intsD {O : Addr → Prop} {H : Hp} : ∀ ns : List Int, RepL O H (intsD ns) (ns.map V.int)
  | [] => .nil
  | n :: ns => .cons (rep_int.mpr rfl) (rep_intsD ns)
@[simp] theorem intsOf_intsD : ∀ ns : List Int, intsOf (intsD ns) = some ns
  | [] => rfl
  | n :: ns => by
    show ((intsOf (intsD ns)).bind fun bs => some (n :: bs)) = _
    rw [intsOf_intsD ns]; rfl
/-! ### the greatest and the least -/
def maxL : Int → List Int → Int
  | m, [] => m
  | m, n :: ns => maxL (if m < n then n else m) ns
def minL : Int → List Int → Int
  | m, [] => m
  | m, n :: ns => minL (if n < m then n else m) ns
theorem maxL_ge : ∀ (ns : List Int) (m : Int), m ≤ maxL m ns ∧ ∀ y ∈ ns, y ≤ maxL m ns
  | [], m => ⟨Int.le_refl _, fun y h => by cases h⟩
  | n :: ns, m => by
    obtain ⟨h1, h2⟩ := maxL_ge ns (if m < n then n else m)
    unfold maxL
    refine ⟨?_, fun y h => ?_⟩
    · split at h1 <;> rename_i hlt
      · rw [if_pos hlt]; omega
      · rw [if_neg hlt]; omega
    · rcases List.mem_cons.mp h with rfl | h
      · split at h1 <;> rename_i hlt
        · rw [if_pos hlt]; omega
        · rw [if_neg hlt]; omega
      · exact h2 y h
theorem maxL_mem : ∀ (ns : List Int) (m : Int), maxL m ns = m ∨ maxL m ns ∈ ns
  | [], m => .inl rfl
  | n :: ns, m => by
    unfold maxL
    by_cases h : m < n
    · rw [if_pos h]
      rcases maxL_mem ns n with e | e
      · exact .inr (by rw [e]; simp)
      · exact .inr (by simp [e])
    · rw [if_neg h]
      rcases maxL_mem ns m with e | e
      · exact .inl e
      · exact .inr (by simp [e])
theorem minL_le : ∀ (ns : List Int) (m : Int), minL m ns ≤ m ∧ ∀ y ∈ ns, minL m ns ≤ y
  | [], m => ⟨Int.le_refl _, fun y h => by cases h⟩
  | n :: ns, m => by
    obtain ⟨h1, h2⟩ := minL_le ns (if n < m then n else m)
    unfold minL
    refine ⟨?_, fun y h => ?_⟩
    · split at h1 <;> rename_i hlt
      · rw [if_pos hlt]; omega
      · rw [if_neg hlt]; omega
    · rcases List.mem_cons.mp h with rfl | h
      · split at h1 <;> rename_i hlt
        · rw [if_pos hlt]; omega
        · rw [if_neg hlt]; omega
      · exact h2 y h
theorem minL_mem : ∀ (ns : List Int) (m : Int), minL m ns = m ∨ minL m ns ∈ ns
  | [], m => .inl rfl
  | n :: ns, m => by
    unfold minL
    by_cases h : n < m
    · rw [if_pos h]
      rcases minL_mem ns n with e | e
      · exact .inr (by rw [e]; simp)
      · exact .inr (by simp [e])
    · rw [if_neg h]
      rcases minL_mem ns m with e | e
      · exact .inl e
      · exact .inr (by simp [e])
/-! ### sorted ints -/
def insI (x : Int) : List Int → List Int
  | [] => [x]
  | y :: ys => if x ≤ y then x :: y :: ys else y :: insI x ys
def sortI : List Int → List Int
  | [] => []
  | x :: xs => insI x (sortI xs)
theorem insI_perm (x : Int) : ∀ ys : List Int, (insI x ys).Perm (x :: ys)
  | [] => .refl _
  | y :: ys => by
    unfold insI
    split
    · exact .refl _
    · exact ((insI_perm x ys).cons y).trans (.swap x y ys)
theorem sortI_perm : ∀ xs : List Int, (sortI xs).Perm xs
  | [] => .refl _
  | x :: xs => (insI_perm x _).trans ((sortI_perm xs).cons x)
theorem insI_sorted (x : Int) : ∀ ys : List Int, ys.Pairwise (· ≤ ·) → (insI x ys).Pairwise (· ≤ ·)
  | [], _ => by simp [insI]
  | y :: ys, h => by
    rw [List.pairwise_cons] at h
    unfold insI
    split
    · next hxy =>
      rw [List.pairwise_cons]
      refine ⟨fun z hz => ?_, List.pairwise_cons.mpr h⟩
      rcases List.mem_cons.mp hz with rfl | hz
      · exact hxy
      · have := h.1 z hz; omega
    · next hxy =>
      rw [List.pairwise_cons]
      refine ⟨fun z hz => ?_, insI_sorted x ys h.2⟩
      rcases List.mem_cons.mp ((insI_perm x ys).mem_iff.mp hz) with rfl | hz
      · omega
      · exact h.1 z hz
theorem sortI_sorted : ∀ xs : List Int, (sortI xs).Pairwise (· ≤ ·)
  | [] => .nil
  | x :: xs => insI_sorted x _ (sortI_sorted xs)
theorem sorted_uniq : ∀ {xs ys : List Int}, xs.Perm ys → xs.Pairwise (· ≤ ·) → ys.Pairwise (· ≤ ·) → xs = ys
  | [], ys, p, _, _ => by rw [List.nil_perm] at p; exact p.symm
  | x :: xs, [], p, _, _ => by have := p.length_eq; simp at this
  | x :: xs, y :: ys, p, h1, h2 => by
    rw [List.pairwise_cons] at h1 h2
    have hx : x ∈ y :: ys := p.mem_iff.mp (by simp)
    have hy : y ∈ x :: xs := p.mem_iff.mpr (by simp)
    have e : x = y := by
      rcases List.mem_cons.mp hx with e | hx
      · exact e
      · rcases List.mem_cons.mp hy with e | hy
        · exact e.symm
        · have := h1.1 y hy
          have := h2.1 x hx
          omega
    subst e
    rw [sorted_uniq ((List.perm_cons x).mp p) h1.2 h2.2]
/-! ### the functions -/
@[simp] def allD : List D → Option D
  | [.list ds] => (boolsOf ds).bind fun bs => some (.bool (bs.all id))
  | _ => none
@[simp] def anyD : List D → Option D
  | [.list ds] => (boolsOf ds).bind fun bs => some (.bool (bs.any id))
  | _ => none
@[simp] def sumD : List D → Option D
  | [.list ds] => (intsOf ds).bind fun bs => some (.int bs.sum)
  | _ => none
@[simp] def maxD : List D → Option D
  | [.list ds] => (intsOf ds).bind fun bs => match bs with
    | [] => none
    | n :: ns => some (.int (maxL n ns))
  | _ => none
@[simp] def minD : List D → Option D
  | [.list ds] => (intsOf ds).bind fun bs => match bs with
    | [] => none
    | n :: ns => some (.int (minL n ns))
  | _ => none
@[simp] def sortedD : List D → Option D
  | [.list ds] => (intsOf ds).bind fun bs => some (.list (intsD (sortI bs)))
  | _ => none
@[simp] def listD : List D → Option D
  | [.list ds] => some (.list ds)
  | [.tuple ds] => some (.list ds)
  | _ => none
@[simp] def tupleD : List D → Option D
  | [.list ds] => some (.tuple ds)
  | [.tuple ds] => some (.tuple ds)
  | _ => none
@[simp] def intD : List D → Option D
  | [.int i] => some (.int i)
  | [.bool b] => some (.int (if b then 1 else 0))
  | _ => none
section
variable {K : PySem.W.Frag}
theorem n_all : OpN (rAll K) allD := by
  intro O H ds z xs Q t hf rx q
  unfold allD at hf
  split at hf
  · obtain ⟨bs, e1, e2⟩ := bind_some hf
    cases e2
    obtain ⟨v, rfl, r⟩ := repL_one rx
    simp only [Rep] at r
    obtain ⟨a, vs, rfl, _, ha, r⟩ := r
    cases bools_rep r e1
    exact ⟨a, bs, rfl, .of ha, q _ H (Same.refl H) (rep_bool.mpr rfl)⟩
  · cases hf
theorem n_any : OpN (rAny K) anyD := by
  intro O H ds z xs Q t hf rx q
  unfold anyD at hf
  split at hf
  · obtain ⟨bs, e1, e2⟩ := bind_some hf
    cases e2
    obtain ⟨v, rfl, r⟩ := repL_one rx
    simp only [Rep] at r
    obtain ⟨a, vs, rfl, _, ha, r⟩ := r
    cases bools_rep r e1
    exact ⟨a, bs, rfl, .of ha, q _ H (Same.refl H) (rep_bool.mpr rfl)⟩
  · cases hf
theorem n_sum : OpN (rSum K) sumD := by
  intro O H ds z xs Q t hf rx q
  unfold sumD at hf
  split at hf
  · obtain ⟨bs, e1, e2⟩ := bind_some hf
    cases e2
    obtain ⟨v, rfl, r⟩ := repL_one rx
    simp only [Rep] at r
    obtain ⟨a, vs, rfl, _, ha, r⟩ := r
    cases ints_rep r e1
    exact ⟨a, bs, rfl, .of ha, q _ H (Same.refl H) (rep_int.mpr rfl)⟩
  · cases hf
theorem n_max : OpN (rMax K) maxD := by
  intro O H ds z xs Q t hf rx q
  unfold maxD at hf
  split at hf
  · obtain ⟨bs, e1, e2⟩ := bind_some hf
    obtain ⟨v, rfl, r⟩ := repL_one rx
    simp only [Rep] at r
    obtain ⟨a, vs, rfl, _, ha, r⟩ := r
    cases ints_rep r e1
    cases bs with
    | nil => cases e2
    | cons n ns =>
      cases e2
      refine ⟨a, n :: ns, rfl, .of ha, by simp, fun m hm hge => q _ H (Same.refl H) (rep_int.mpr ?_)⟩
      have h1 := maxL_ge ns n
      have h2 : maxL n ns ≤ m := by
        rcases maxL_mem ns n with e | e
        · rw [e]; exact hge n (by simp)
        · exact hge _ (by simp [e])
      have h3 : m ≤ maxL n ns := by
        rcases List.mem_cons.mp hm with rfl | hm
        · exact h1.1
        · exact h1.2 m hm
      rw [show m = maxL n ns by omega]
  · cases hf
theorem n_min : OpN (rMin K) minD := by
  intro O H ds z xs Q t hf rx q
  unfold minD at hf
  split at hf
  · obtain ⟨bs, e1, e2⟩ := bind_some hf
    obtain ⟨v, rfl, r⟩ := repL_one rx
    simp only [Rep] at r
    obtain ⟨a, vs, rfl, _, ha, r⟩ := r
    cases ints_rep r e1
    cases bs with
    | nil => cases e2
    | cons n ns =>
      cases e2
      refine ⟨a, n :: ns, rfl, .of ha, by simp, fun m hm hge => q _ H (Same.refl H) (rep_int.mpr ?_)⟩
      have h1 := minL_le ns n
      have h2 : m ≤ minL n ns := by
        rcases minL_mem ns n with e | e
        · rw [e]; exact hge n (by simp)
        · exact hge _ (by simp [e])
      have h3 : minL n ns ≤ m := by
        rcases List.mem_cons.mp hm with rfl | hm
        · exact h1.1
        · exact h1.2 m hm
      rw [show m = minL n ns by omega]
  · cases hf
theorem n_sorted : OpN (rSortedI K) sortedD := by
  intro O H ds z xs Q t hf rx q
  unfold sortedD at hf
  split at hf
  · obtain ⟨bs, e1, e2⟩ := bind_some hf
    cases e2
    obtain ⟨v, rfl, r⟩ := repL_one rx
    simp only [Rep] at r
    obtain ⟨a, vs, rfl, _, ha, r⟩ := r
    cases ints_rep r e1
    refine ⟨a, bs, rfl, .of ha, fun ns' p hp hs hn => ?_⟩
    have : ns' = sortI bs := sorted_uniq (hp.trans (sortI_perm bs).symm) hs (sortI_sorted bs)
    subst this
    exact q _ _ (same_upd hn) (rep_lst t hn (rep_intsD _))
  · cases hf
theorem n_list : OpN (fun xs H Q => ∃ p ys, xs = [.ref p] ∧ (SqL K H p ys ∨ SqT K H p ys) ∧ ∀ l, H l = none → Q (.ref l) (upd H l (.lst ys))) listD := by
  intro O H ds z xs Q t hf rx q
  unfold listD at hf
  split at hf
  · cases hf
    obtain ⟨v, rfl, r⟩ := repL_one rx
    simp only [Rep] at r
    obtain ⟨a, vs, rfl, _, ha, r⟩ := r
    exact ⟨a, vs, rfl, .inl (.of ha), fun l hl => q _ _ (same_upd hl) (rep_lst t hl r)⟩
  · cases hf
    obtain ⟨v, rfl, r⟩ := repL_one rx
    simp only [Rep] at r
    obtain ⟨a, vs, rfl, ha, r⟩ := r
    exact ⟨a, vs, rfl, .inr (.of ha), fun l hl => q _ _ (same_upd hl) (rep_lst t hl r)⟩
  · cases hf
theorem n_tuple : OpN (fun xs H Q => ∃ p ys, xs = [.ref p] ∧ ((SqL K H p ys ∧ ∀ l, H l = none → Q (.ref l) (upd H l (.tup ys))) ∨ (SqT K H p ys ∧ Q (.ref p) H))) tupleD := by
  intro O H ds z xs Q t hf rx q
  unfold tupleD at hf
  split at hf
  · cases hf
    obtain ⟨v, rfl, r⟩ := repL_one rx
    simp only [Rep] at r
    obtain ⟨a, vs, rfl, _, ha, r⟩ := r
    exact ⟨a, vs, rfl, .inl ⟨.of ha, fun l hl => q _ _ (same_upd hl) (rep_tup hl r)⟩⟩
  · cases hf
    obtain ⟨v, rfl, r⟩ := repL_one rx
    have r' := r
    simp only [Rep] at r
    obtain ⟨a, vs, rfl, ha, r⟩ := r
    exact ⟨a, vs, rfl, .inr ⟨.of ha, q _ H (Same.refl H) r'⟩⟩
  · cases hf
theorem n_int : OpN (fun xs H Q => (∃ i, xs = [.int i] ∧ Q (.int i) H) ∨ ∃ k, xs = [.bl k] ∧ Q (.int (if k then 1 else 0)) H) intD := by
  intro O H ds z xs Q t hf rx q
  unfold intD at hf
  split at hf
  · cases hf
    obtain ⟨v, rfl, r⟩ := repL_one rx
    rw [rep_int.mp r]
    exact .inl ⟨_, rfl, q _ H (Same.refl H) (rep_int.mpr rfl)⟩
  · cases hf
    obtain ⟨v, rfl, r⟩ := repL_one rx
    rw [rep_bool.mp r]
    exact .inr ⟨_, rfl, q _ H (Same.refl H) (rep_int.mpr rfl)⟩
  · cases hf
end
/-! ### in -/
@[simp] def inD : D → D → Option D
  | d, .list ds => if SeqAt.shaped d = true ∧ SeqAt.shaped (.list ds) = true then some (.bool (ds.any fun z => PyData.eqv z d)) else none
  | _, _ => none
@[simp] def notInD : D → D → Option D
  | d, .list ds => if SeqAt.shaped d = true ∧ SeqAt.shaped (.list ds) = true then some (.bool (!ds.any fun z => PyData.eqv z d)) else none
  | _, _ => none
theorem o_in {K : PySem.W.Frag} : Op2 (rInD K) inD := by
  intro O H d e z x y Q t hf rx ry q
  unfold inD at hf
  split at hf
  · split at hf
    · next hs => cases hf; exact ⟨_, _, rx.dp, ry.dp, hs.1, hs.2, q _ H (Same.refl H) (rep_bool.mpr rfl)⟩
    · cases hf
  · cases hf
theorem o_notIn {K : PySem.W.Frag} : Op2 (rNotInD K) notInD := by
  intro O H d e z x y Q t hf rx ry q
  unfold notInD at hf
  split at hf
  · split at hf
    · next hs => cases hf; exact ⟨_, _, rx.dp, ry.dp, hs.1, hs.2, q _ H (Same.refl H) (rep_bool.mpr rfl)⟩
    · cases hf
  · cases hf
end DL

namespace DL
open PySem PySem.Spec
open PyProof.Rows hiding St
open L2
/-! ## shapes and equality -/
def Shp (k : Nat) (d : D) : Prop := d.canLay0 = true ∧ d.depth ≤ k
theorem Shp.ok {k : Nat} {d : D} (h : Shp k d) (hk : k ≤ 64) : SeqAt.shaped d = true := by
  unfold SeqAt.shaped
  rw [h.1, Bool.true_and, decide_eq_true_eq]
  exact Nat.le_trans h.2 hk
theorem Shp.mono {k j : Nat} {d : D} (h : Shp k d) (hk : k ≤ j) : Shp j d := ⟨h.1, Nat.le_trans h.2 hk⟩
theorem shp_int (i : Int) : Shp 0 (.int i) := ⟨by simp [PyData.canLay0], by simp [PyData.depth]⟩
theorem shp_bool (i : Bool) : Shp 0 (.bool i) := ⟨by simp [PyData.canLay0], by simp [PyData.depth]⟩
theorem shp_none : Shp 0 .none := ⟨by simp [PyData.canLay0], by simp [PyData.depth]⟩
theorem shp_str {x : Str} (h : PyData.strOk x = true) : Shp 0 (.str x) := ⟨by simp [PyData.canLay0, h], by simp [PyData.depth]⟩
theorem shp_all {k : Nat} : ∀ {ds : List D}, (∀ d ∈ ds, Shp k d) → PyData.canLayAll0 ds = true ∧ PyData.depthAll ds ≤ k
  | [], h => ⟨by simp [PyData.canLayAll0], by simp [PyData.depthAll]⟩
  | d :: ds, h => by
    obtain ⟨h1, h2⟩ := h d (by simp)
    obtain ⟨h3, h4⟩ := shp_all (ds := ds) (fun e he => h e (by simp [he]))
    refine ⟨by rw [PyData.canLayAll0, h1, h3]; rfl, ?_⟩
    rw [PyData.depthAll]
    omega
theorem shp_list {k : Nat} {ds : List D} (h : ∀ d ∈ ds, Shp k d) : Shp (k + 1) (.list ds) := by
  obtain ⟨h1, h2⟩ := shp_all h
  exact ⟨by rw [PyData.canLay0]; exact h1, by rw [PyData.depth]; omega⟩
theorem shp_tup {k : Nat} {ds : List D} (h : ∀ d ∈ ds, Shp k d) : Shp (k + 1) (.tuple ds) := by
  obtain ⟨h1, h2⟩ := shp_all h
  exact ⟨by rw [PyData.canLay0]; exact h1, by rw [PyData.depth]; omega⟩
theorem shp_ints (ns : List Int) : ∀ d ∈ intsD ns, Shp 0 d := fun d hd => by
  obtain ⟨n, _, rfl⟩ := List.mem_map.mp hd
  exact shp_int n
@[simp] theorem shaped_ints (ns : List Int) : SeqAt.shaped (.list (intsD ns)) = true := (shp_list (shp_ints ns)).ok (by decide)
@[simp] theorem shaped_intsT (ns : List Int) : SeqAt.shaped (.tuple (intsD ns)) = true := (shp_tup (shp_ints ns)).ok (by decide)
@[simp] theorem shaped_nil : SeqAt.shaped (.list []) = true := shaped_ints []
@[simp] theorem shaped_nilT : SeqAt.shaped (.tuple []) = true := shaped_intsT []
@[simp] theorem eqv_list (xs ys : List D) : PyData.eqv (.list xs) (.list ys) = PyData.eqvAll xs ys := by rw [PyData.eqv]
@[simp] theorem eqv_tup (xs ys : List D) : PyData.eqv (.tuple xs) (.tuple ys) = PyData.eqvAll xs ys := by rw [PyData.eqv]
@[simp] theorem eqv_bool (i j : Bool) : PyData.eqv (.bool i) (.bool j) = (i == j) := by rw [PyData.eqv]
@[simp] theorem eqv_str (i j : Str) : PyData.eqv (.str i) (.str j) = (i == j) := by rw [PyData.eqv]
@[simp] theorem eqvAll_nil : PyData.eqvAll [] [] = true := by rw [PyData.eqvAll]
@[simp] theorem eqvAll_cons (x y : D) (xs ys : List D) : PyData.eqvAll (x :: xs) (y :: ys) = (PyData.eqv x y && PyData.eqvAll xs ys) := by rw [PyData.eqvAll]
@[simp] theorem eqvAll_l (x : D) (xs : List D) : PyData.eqvAll (x :: xs) [] = false := by rw [PyData.eqvAll]
@[simp] theorem eqvAll_r (x : D) (xs : List D) : PyData.eqvAll [] (x :: xs) = false := by rw [PyData.eqvAll]
theorem eqvAll_nil_iff (xs : List D) : PyData.eqvAll xs [] = xs.isEmpty := by
  cases xs <;> simp
theorem eqvAll_ints : ∀ (xs ys : List Int), PyData.eqvAll (intsD xs) (intsD ys) = decide (xs = ys)
  | [], [] => by simp [intsD]
  | [], y :: ys => by simp [intsD]
  | x :: xs, [] => by simp [intsD]
  | x :: xs, y :: ys => by
    have := eqvAll_ints xs ys
    simp only [intsD, List.map_cons, eqvAll_cons, eqv_int] at this ⊢
    rw [this]
    by_cases h : x = y
    · subst h; simp
    · simp [h]
theorem eqvAll_refl : ∀ {xs : List D}, (∀ d ∈ xs, PyData.eqv d d = true) → PyData.eqvAll xs xs = true
  | [], _ => by simp
  | x :: xs, h => by
    rw [eqvAll_cons, h x (by simp), eqvAll_refl fun d hd => h d (List.mem_cons_of_mem _ hd)]
    rfl
@[simp] theorem intsD_nil : intsD [] = [] := rfl
@[simp] theorem intsD_cons (n : Int) (ns : List Int) : intsD (n :: ns) = .int n :: intsD ns := rfl
@[simp] theorem intsD_len (ns : List Int) : (intsD ns).length = ns.length := by simp [intsD]
theorem intsD_app (ns ms : List Int) : intsD (ns ++ ms) = intsD ns ++ intsD ms := by simp [intsD]
theorem intsD_get (ns : List Int) (i : Nat) : (intsD ns)[i]? = (ns[i]?).map .int := by simp [intsD]
theorem immL_ints : ∀ ns : List Int, immL (intsD ns) = true
  | [] => rfl
  | n :: ns => by simp [immL_ints ns]
@[simp] theorem imm_ints (ns : List Int) : imm (.tuple (intsD ns)) = true := by simp [immL_ints]
theorem atI_ints (ns : List Int) (i : Nat) (k : Int) (hk : k = i) (n : Int) (h : ns[i]? = some n) : atI (intsD ns) k = some (.int n) := by
  subst hk
  rw [atI_natCast, intsD_get, h]
  rfl
/-! ## slices -/
theorem cutD_from (xs : List D) (i : Int) (h : 0 ≤ i) : cutD xs (some i) none = xs.drop i.toNat := by
  obtain ⟨k, rfl⟩ := Int.eq_ofNat_of_zero_le h
  unfold cutD
  rw [HT.sIx_nat, HT.sIx_none, Int.toNat_natCast]
  by_cases hk : k ≤ xs.length
  · rw [Nat.min_eq_left hk, List.take_of_length_le (by rw [List.length_drop]; omega)]
  · rw [Nat.min_eq_right (by omega), Nat.sub_self, List.take_zero, List.drop_eq_nil_of_le (by omega)]
theorem cutD_to (xs : List D) (i : Int) (h : 0 ≤ i) : cutD xs none (some i) = xs.take i.toNat := by
  obtain ⟨k, rfl⟩ := Int.eq_ofNat_of_zero_le h
  unfold cutD
  rw [HT.sIx_nat, HT.sIx_none, Int.toNat_natCast, List.drop_zero, Nat.sub_zero]
  by_cases hk : k ≤ xs.length
  · rw [Nat.min_eq_left hk]
  · rw [Nat.min_eq_right (by omega), List.take_of_length_le (by omega), List.take_of_length_le (by omega)]
@[simp] theorem cutD_one (xs : List D) : cutD xs (some 1) none = xs.tail := by
  rw [cutD_from xs 1 (by decide)]
  exact List.drop_one
@[simp] theorem intsD_tail (ns : List Int) : (intsD ns).tail = intsD ns.tail := by simp [intsD]
@[simp] theorem cutD_nat (xs : List D) (k : Nat) : cutD xs none (some (k : Int)) = xs.take k := by
  rw [cutD_to xs k (by omega)]
  rfl
theorem intsD_drop (ns : List Int) (k : Nat) : (intsD ns).drop k = intsD (ns.drop k) := by simp [intsD]
theorem intsD_take (ns : List Int) (k : Nat) : (intsD ns).take k = intsD (ns.take k) := by simp [intsD]
theorem boolsOf_map (p : D → Bool) : ∀ ds : List D, boolsOf (ds.map fun d => .bool (p d)) = some (ds.map p)
  | [] => rfl
  | d :: ds => by simp [boolsOf_map p ds]
/-! ## ranges -/
theorem rngL_zero (lo : Int) : rngL lo 0 = [] := rfl
theorem rngL_succ (lo : Int) (n : Nat) : rngL lo (n + 1) = .int lo :: rngL (lo + 1) n := by
  unfold rngL
  rw [List.range_succ_eq_map, List.map_cons, List.map_map]
  congr 1
  · simp
  · apply List.map_congr_left
    intro i _
    show PyData.int (lo + ((i + 1 : Nat) : Int)) = .int (lo + 1 + (i : Int))
    congr 1
    omega
theorem rngL_len (lo : Int) (n : Nat) : (rngL lo n).length = n := by simp [rngL]
theorem rngL_mem {lo : Int} {n : Nat} {d : D} (h : d ∈ rngL lo n) : ∃ i : Int, d = .int i ∧ lo ≤ i ∧ i < lo + n := by
  obtain ⟨k, hk, rfl⟩ := List.mem_map.mp h
  rw [List.mem_range] at hk
  exact ⟨_, rfl, by omega, by omega⟩
theorem two62 : ((2 : Int) ^ 62) = 4611686018427387904 := by decide
theorem rng1_ok (j : Int) (h0 : -1000000000000000000 ≤ j) (h : j ≤ 1000000000000000000) : rng1 [.int j] = some (rngL 0 j.toNat) := by
  rw [rng1_def]
  show (if -(2 ^ 62 : Int) ≤ j ∧ j < 2 ^ 62 then some (rngL 0 j.toNat) else none) = _
  rw [two62]
  exact if_pos (by omega)
theorem rng1_nat (n : Nat) (h : n ≤ 1000000) : rng1 [.int (n : Int)] = some (rngL 0 n) := by
  rw [rng1_ok n (by omega) (by omega)]
  rfl
theorem rng2_ok (i j : Int) (h0 : -1000000000000000000 ≤ i) (h : i ≤ 1000000000000000000) (h1 : -1000000000000000000 ≤ j) (h2 : j ≤ 1000000000000000000) : rng2 [.int i, .int j] = some (rngL i (j - i).toNat) := by
  rw [rng2_def]
  show (if -(2 ^ 62 : Int) ≤ i ∧ i < 2 ^ 62 ∧ -(2 ^ 62) ≤ j ∧ j < 2 ^ 62 then some (rngL i (j - i).toNat) else none) = _
  rw [two62]
  exact if_pos (by omega)
/-! ## comprehensions and loops -/
theorem compL_fm {b : D → Rho → Option Rho} {t : Rho → Option Bool} {g : Rho → Option D} {ρ : Rho} (p : D → Bool) (f : D → D) : ∀ {ds : List D}, (∀ d ∈ ds, ∃ ρ1, b d ρ = some ρ1 ∧ t ρ1 = some (p d) ∧ (p d = true → g ρ1 = some (f d))) → compL b t g ρ ds = some ((ds.filter p).map f)
  | [], _ => rfl
  | d :: ds, h => by
    obtain ⟨ρ1, e1, e2, e3⟩ := h d (by simp)
    have ih := compL_fm (ds := ds) p f fun e he => h e (by simp [he])
    unfold compL
    rw [e1]
    simp only [Option.bind]
    rw [e2]
    by_cases hp : p d = true
    · simp [hp, e3 hp, ih]
    · simp [hp, ih]
theorem compL_map {b : D → Rho → Option Rho} {g : Rho → Option D} {ρ : Rho} (f : D → D) {ds : List D} (h : ∀ d ∈ ds, ∃ ρ1, b d ρ = some ρ1 ∧ g ρ1 = some (f d)) : compL b yesT g ρ ds = some (ds.map f) := by
  have := compL_fm (b := b) (t := yesT) (g := g) (ρ := ρ) (fun _ => true) f (ds := ds) fun d hd => by
    obtain ⟨ρ1, e1, e2⟩ := h d hd
    exact ⟨ρ1, e1, rfl, fun _ => e2⟩
  rwa [List.filter_eq_self.mpr (fun _ _ => rfl)] at this
theorem forL_inv {b : D → Rho → Option Rho} {F : Rho → Option Out} (I : List D → Rho → Prop) (h : ∀ d ds ρ, I (d :: ds) ρ → ∃ ρ1 ρ2, b d ρ = some ρ1 ∧ F ρ1 = some (.nx ρ2) ∧ I ds ρ2) : ∀ ds ρ, I ds ρ → ∃ ρ', forL b F ds ρ = some (.nx ρ') ∧ I [] ρ'
  | [], ρ, i => ⟨ρ, rfl, i⟩
  | d :: ds, ρ, i => by
    obtain ⟨ρ1, ρ2, e1, e2, i2⟩ := h d ds ρ i
    obtain ⟨ρ', e3, i3⟩ := forL_inv I h ds ρ2 i2
    exact ⟨ρ', by simp [e1, e2, e3], i3⟩
theorem forL_cons {b : D → Rho → Option Rho} {F : Rho → Option Out} {d : D} {ds : List D} {ρ ρ1 ρ2 : Rho} (h1 : b d ρ = some ρ1) (h2 : F ρ1 = some (.nx ρ2)) : forL b F (d :: ds) ρ = forL b F ds ρ2 := by simp [h1, h2]
theorem whl_go {c : Rho → Option (Bool × Rho)} {F : Rho → Option Out} {n : Nat} {ρ ρ1 ρ2 : Rho} (h1 : c ρ = some (true, ρ1)) (h2 : F ρ1 = some (.nx ρ2)) : whlL c F (n + 1) ρ = whlL c F n ρ2 := by simp [whlL, h1, h2]
theorem whl_end {c : Rho → Option (Bool × Rho)} {F : Rho → Option Out} {n : Nat} {ρ ρ1 : Rho} (h1 : c ρ = some (false, ρ1)) : whlL c F (n + 1) ρ = some (.nx ρ1) := by simp [whlL, h1]
theorem seq_eq {F G : Rho → Option Out} {ρ ρ1 : Rho} {r : Option Out} (h : F ρ = some (.nx ρ1)) (h2 : G ρ1 = r) : seqF F G ρ = r := by
  simp [seqF, h, h2]
theorem seq_ex {F G : Rho → Option Out} {ρ : Rho} (ρ1 : Rho) {J : Rho → Prop} (h : F ρ = some (.nx ρ1)) (h2 : ∃ ρ', G ρ1 = some (.nx ρ') ∧ J ρ') : ∃ ρ', seqF F G ρ = some (.nx ρ') ∧ J ρ' := by
  obtain ⟨ρ', e, j⟩ := h2
  exact ⟨ρ', seq_nx h e, j⟩
theorem last_ex {F : Rho → Option Out} {ρ : Rho} (ρ1 : Rho) {J : Rho → Prop} (h : F ρ = some (.nx ρ1)) (j : J ρ1) : ∃ ρ', F ρ = some (.nx ρ') ∧ J ρ' := ⟨ρ1, h, j⟩
theorem seq_ex2 {F G : Rho → Option Out} {ρ : Rho} {I J : Rho → Prop} (h : ∃ ρ1, F ρ = some (.nx ρ1) ∧ I ρ1) (h2 : ∀ ρ1, I ρ1 → ∃ ρ', G ρ1 = some (.nx ρ') ∧ J ρ') : ∃ ρ', seqF F G ρ = some (.nx ρ') ∧ J ρ' := by
  obtain ⟨ρ1, e, i⟩ := h
  obtain ⟨ρ', e2, j⟩ := h2 ρ1 i
  exact ⟨ρ', seq_nx e e2, j⟩
/-! ## draws, once more -/
theorem pickI {xs : List D} {r : Int} (h0 : 0 ≤ r) (h : r < xs.length) : ∃ d, atI xs r = some d ∧ d ∈ xs := by
  obtain ⟨k, rfl⟩ := Int.eq_ofNat_of_zero_le h0
  have hk : k < xs.length := by omega
  refine ⟨xs[k], ?_, List.getElem_mem hk⟩
  rw [atI_natCast, List.getElem?_eq_getElem hk]
end DL

namespace DL
open PySem PySem.Spec
open PyProof.Rows hiding St
open L2
/-! ## a tuple times none or one -/
theorem tuple_mul1 (l : Addr) (items : Array Value) (n : Nat) (dd : Option Addr) (sl : Array (Option Value)) (x : Int) (u : Tok) (c0 : (decide (x < -(2 ^ 63)) || decide (x ≥ 2 ^ 63)) = false) (c1 : (items.isEmpty || x == 1) = true) :
    Meets (Builtin.«tuple.__mul__» ⟨[.ref l, .int x u], []⟩) (fun _ R s => s.heap.get? l = some { cls := .type "tuple", dict := dd, data := .seq items n, slots := sl } ∧ R (.ok (.ret (Value.ref l))) { s with heap := s.heap, toks := s.toks }) :=
  .of_wp fun prog w A R s h => by
    obtain ⟨hp, g, d, tk, os⟩ := s
    obtain ⟨hl, h⟩ := h
    have f1 := AutoSeq1.idx_int
    wp_walk using wpAny_loadPart' hl
    repeat (first
      | (refine wpAny_ite_false (decide_eq_false (by rw [c0]; exact Bool.false_ne_true)) ?_; wp_walk using wpAny_loadPart' hl)
      | (refine wpAny_ite_true (decide_eq_true (by rw [c1])) ?_; wp_walk using wpAny_loadPart' hl))
    exact ⟨_, rfl, h⟩
theorem tuple_mul0 (l : Addr) (items : Array Value) (n : Nat) (dd : Option Addr) (sl : Array (Option Value)) (x : Int) (u : Tok) (c0 : (decide (x < -(2 ^ 63)) || decide (x ≥ 2 ^ 63)) = false) (c1 : (items.isEmpty || x == 1) = false) (c2 : (decide (x ≤ 0) || items.isEmpty) = true) :
    Meets (Builtin.«tuple.__mul__» ⟨[.ref l, .int x u], []⟩) (fun _ R s => s.heap.get? l = some { cls := .type "tuple", dict := dd, data := .seq items n, slots := sl } ∧
      R (.ok (.ret (Value.ref s.heap.objs.size))) { s with heap := s.heap.push { cls := Value.type "tuple", data := Data.seq #[] }, toks := s.toks }) :=
  .of_wp fun prog w A R s h => by
    obtain ⟨hp, g, d, tk, os⟩ := s
    obtain ⟨hl, h⟩ := h
    have f1 := AutoSeq1.idx_int
    wp_walk using wpAny_loadPart' hl
    repeat (first
      | (refine wpAny_ite_false (decide_eq_false (by rw [c0]; exact Bool.false_ne_true)) ?_; wp_walk using wpAny_loadPart' hl)
      | (refine wpAny_ite_false (decide_eq_false (by rw [c1]; exact Bool.false_ne_true)) ?_; wp_walk using wpAny_loadPart' hl)
      | (refine wpAny_ite_true (decide_eq_true (by rw [c2])) ?_; wp_walk using wpAny_loadPart' hl))
    exact ⟨_, rfl, h⟩
def rRep1 (K : PySem.W.Frag) : R2 := fun x y H Q => ∃ l k xs, x = .ref l ∧ y = .int k ∧ SqT K H l xs ∧ -1000 ≤ k ∧ k ≤ 1000 ∧ ((xs.isEmpty || k == 1) = true) ∧ Q (.ref l) H
def rRep0 (K : PySem.W.Frag) : R2 := fun x y H Q => ∃ l k xs, x = .ref l ∧ y = .int k ∧ SqT K H l xs ∧ xs ≠ [] ∧ -1000 ≤ k ∧ k ≤ 0 ∧ ∀ p, H p = none → Q (.ref p) (upd H p (.tup []))
section
variable {X : Cx}
theorem op_rep1 : OpR X (binaryOp .Mult) (rRep1 X.K) := by
  intro pins s σ H x y v u Q I rx ry h
  obtain ⟨l, k, xs, rfl, rfl, hT, h1, h2, hk, q⟩ := h
  cases rx
  obtain ⟨t, rfl⟩ := ry
  obtain ⟨its, r, ⟨⟨cls, dd, data, sl⟩, ho, hc, n, hd⟩, hs⟩ := I.tuple hT
  simp only at hc hd
  subst hc hd
  have hi : its.toArray.isEmpty = xs.isEmpty := by
    have := r.length
    cases its <;> cases xs <;> simp_all
  have c0 : (decide (k < -(2 ^ 63)) || decide (k ≥ 2 ^ 63)) = false := by
    rw [decide_eq_false (by omega), decide_eq_false (by omega)] <;> rfl
  have c1 : (its.toArray.isEmpty || k == 1) = true := by rw [hi]; exact hk
  refine wpAny_binaryOp_repeat_ref (T := "tuple") (U := "int") (by decide) ⟨_, ho, rfl⟩ (fun s' => typeIs_int s' k t) noFill_tuple_mul F.fills_int_mul F.slot_int_rmul repeat_tuple F.slot_int_index.lookup
    (call_meets F.slot_int_rmul (typeIs_int s k t) F.entry_int_rmul (F.args_int_rmul_2 _ _) (int_rmul_tuple k t l its.toArray n dd sl)
      ⟨ho, rfl, ⟨_, ho, rfl⟩, call_meets F.slot_tuple_mul ⟨_, ho, rfl⟩ F.entry_tuple_mul (F.args_tuple_mul_2 _ _) (tuple_mul1 l its.toArray n dd sl k t c0 c1) ⟨ho, ?_⟩⟩)
  exact ⟨.ref l, H, I, rfl, q⟩
theorem op_rep0 : OpR X (binaryOp .Mult) (rRep0 X.K) := by
  intro pins s σ H x y v u Q I rx ry h
  obtain ⟨l, k, xs, rfl, rfl, hT, hne, h1, h2, q⟩ := h
  cases rx
  obtain ⟨t, rfl⟩ := ry
  obtain ⟨its, r, ⟨⟨cls, dd, data, sl⟩, ho, hc, n, hd⟩, hs⟩ := I.tuple hT
  simp only at hc hd
  subst hc hd
  have hi : its.toArray.isEmpty = false := by
    have := r.length
    cases its with
    | nil => cases xs with
      | nil => exact absurd rfl hne
      | cons a b => simp at this
    | cons a b => rfl
  have c0 : (decide (k < -(2 ^ 63)) || decide (k ≥ 2 ^ 63)) = false := by
    rw [decide_eq_false (by omega), decide_eq_false (by omega)] <;> rfl
  have c1 : (its.toArray.isEmpty || k == 1) = false := by
    rw [hi, Bool.false_or]
    exact beq_eq_false_iff_ne.mpr (by omega)
  have c2 : (decide (k ≤ 0) || its.toArray.isEmpty) = true := by
    rw [decide_eq_true h2]; rfl
  refine wpAny_binaryOp_repeat_ref (T := "tuple") (U := "int") (by decide) ⟨_, ho, rfl⟩ (fun s' => typeIs_int s' k t) noFill_tuple_mul F.fills_int_mul F.slot_int_rmul repeat_tuple F.slot_int_index.lookup
    (call_meets F.slot_int_rmul (typeIs_int s k t) F.entry_int_rmul (F.args_int_rmul_2 _ _) (int_rmul_tuple k t l its.toArray n dd sl)
      ⟨ho, rfl, ⟨_, ho, rfl⟩, call_meets F.slot_tuple_mul ⟨_, ho, rfl⟩ F.entry_tuple_mul (F.args_tuple_mul_2 _ _) (tuple_mul0 l its.toArray n dd sl k t c0 c1 c2) ⟨ho, ?_⟩⟩)
  refine ⟨.ref s.heap.objs.size, _, I.laid (t' := s.toks) (o := .tup []) (fun b ob q => Heap.get?_push_of_some _ q) (Nat.le_refl _) ?_, rfl, q _ (I.hok.fresh (Nat.le_refl _))⟩
  exact ⟨by rw [sizeLine_eq]; exact Nat.zero_le _, [], .nil, IsTup.new _ _⟩
abbrev rMulT (K : PySem.W.Frag) : R2 := fun x y H Q => rI CMul (fun i j => .int (i * j)) x y H Q ∨ rRepT K x y H Q ∨ rRep1 K x y H Q ∨ rRep0 K x y H Q
theorem op_mulT : OpR X (binaryOp .Mult) (rMulT X.K) := op_mul.or (op_repT.or (op_rep1.or op_rep0))
end
@[simp] def mulT : D → D → Option D
  | .int i, .int j => if (-18446744073709551616 < i ∧ i < 18446744073709551616) ∨ (-18446744073709551616 < j ∧ j < 18446744073709551616) then some (.int (i * j)) else none
  | .tuple xs, .int k => if xs.length ≤ 1000 ∧ -1000 ≤ k ∧ k ≤ 1000 then some (.tuple (List.replicate k.toNat xs).flatten) else none
  | _, _ => none
theorem RepL.rep {O : Addr → Prop} {H : Hp} {ds : List D} {vs : List V} (r : RepL O H ds vs) : ∀ n : Nat, RepL O H (List.replicate n ds).flatten (List.replicate n vs).flatten
  | 0 => .nil
  | n + 1 => by
    rw [List.replicate_succ, List.replicate_succ, List.flatten_cons, List.flatten_cons]
    exact r.append (RepL.rep r n)
theorem o_mulT {K : PySem.W.Frag} : Op2 (rMulT K) mulT := by
  intro O H d e z x y Q t hf rx ry q
  unfold mulT at hf
  split at hf
  · next i j => exact .inl (o_mul O H (.int i) (.int j) z x y Q t hf rx ry q)
  · next xs k =>
    split at hf
    · next hc =>
      cases hf
      obtain ⟨h1, h2, h3⟩ := hc
      have rx' := rx
      simp only [Rep] at rx
      obtain ⟨a, vs, rfl, ha, r⟩ := rx
      have hl := r.length
      have hk := rep_int.mp ry
      by_cases hv : vs = []
      · subst hv
        have hx : xs = [] := List.length_eq_zero_iff.mp (by simpa using hl)
        subst hx
        refine .inr (.inr (.inl ⟨a, k, [], rfl, hk, .of ha, h2, h3, rfl, q _ H (Same.refl H) ?_⟩))
        have : (List.replicate k.toNat ([] : List D)).flatten = [] := by
          induction k.toNat with
          | zero => rfl
          | succ n ih => rw [List.replicate_succ, List.flatten_cons, ih]; rfl
        rw [this]
        exact rx'
      · by_cases k1 : k = 1
        · subst k1
          refine .inr (.inr (.inl ⟨a, 1, vs, rfl, hk, .of ha, h2, h3, by simp, q _ H (Same.refl H) ?_⟩))
          have : (List.replicate (1 : Int).toNat xs).flatten = xs := by
            show (List.replicate 1 xs).flatten = xs
            simp
          rw [this]
          exact rx'
        · by_cases k0 : k ≤ 0
          · refine .inr (.inr (.inr ⟨a, k, vs, rfl, hk, .of ha, hv, h2, k0, fun p hp => q _ _ (same_upd hp) ?_⟩))
            have : k.toNat = 0 := by omega
            rw [this]
            exact rep_tup hp .nil
          · refine .inr (.inl ⟨a, k, vs, rfl, hk, .of ha, hv, by omega, h3, by omega, fun p hp => q _ _ (same_upd hp) ?_⟩)
            exact rep_tup hp (RepL.rep r _)
    · cases hf
  · cases hf
theorem rep_one (x : D) : ∀ n : Nat, (List.replicate n [x]).flatten = List.replicate n x
  | 0 => rfl
  | n + 1 => by rw [List.replicate_succ, List.flatten_cons, rep_one x n]; rfl
theorem intsD_rep (i : Int) (n : Nat) : List.replicate n (PyData.int i) = intsD (List.replicate n i) := by simp [intsD]
end DL

namespace DL
open PySem PySem.Spec
open PyProof.Rows hiding St
open L2
/-! ## an environment of a known length -/
theorem exS {n : Nat} {ρ : Rho} (h : ρ.length = n + 1) : ∃ x r, ρ = x :: r ∧ r.length = n := match ρ, h with | x :: r, h => ⟨x, r, rfl, Nat.succ.inj h⟩
theorem ex1 {ρ : Rho} (h : ρ.length = 1) : ∃ x, ρ = [x] := match ρ, h with | [x], _ => ⟨x, rfl⟩
theorem ex2 {ρ : Rho} (h : ρ.length = 2) : ∃ x0 x1, ρ = [x0, x1] := by
  obtain ⟨x0, r, rfl, g⟩ := exS h
  obtain ⟨x1, rfl⟩ := ex1 g
  exact ⟨x0, x1, rfl⟩
theorem ex3 {ρ : Rho} (h : ρ.length = 3) : ∃ x0 x1 x2, ρ = [x0, x1, x2] := by
  obtain ⟨x0, r, rfl, g⟩ := exS h
  obtain ⟨x1, x2, rfl⟩ := ex2 g
  exact ⟨x0, x1, x2, rfl⟩
theorem ex4 {ρ : Rho} (h : ρ.length = 4) : ∃ x0 x1 x2 x3, ρ = [x0, x1, x2, x3] := by
  obtain ⟨x0, r, rfl, g⟩ := exS h
  obtain ⟨x1, x2, x3, rfl⟩ := ex3 g
  exact ⟨x0, x1, x2, x3, rfl⟩
theorem ex5 {ρ : Rho} (h : ρ.length = 5) : ∃ x0 x1 x2 x3 x4, ρ = [x0, x1, x2, x3, x4] := by
  obtain ⟨x0, r, rfl, g⟩ := exS h
  obtain ⟨x1, x2, x3, x4, rfl⟩ := ex4 g
  exact ⟨x0, x1, x2, x3, x4, rfl⟩
theorem ex6 {ρ : Rho} (h : ρ.length = 6) : ∃ x0 x1 x2 x3 x4 x5, ρ = [x0, x1, x2, x3, x4, x5] := by
  obtain ⟨x0, r, rfl, g⟩ := exS h
  obtain ⟨x1, x2, x3, x4, x5, rfl⟩ := ex5 g
  exact ⟨x0, x1, x2, x3, x4, x5, rfl⟩
theorem ex7 {ρ : Rho} (h : ρ.length = 7) : ∃ x0 x1 x2 x3 x4 x5 x6, ρ = [x0, x1, x2, x3, x4, x5, x6] := by
  obtain ⟨x0, r, rfl, g⟩ := exS h
  obtain ⟨x1, x2, x3, x4, x5, x6, rfl⟩ := ex6 g
  exact ⟨x0, x1, x2, x3, x4, x5, x6, rfl⟩
theorem ex8 {ρ : Rho} (h : ρ.length = 8) : ∃ x0 x1 x2 x3 x4 x5 x6 x7, ρ = [x0, x1, x2, x3, x4, x5, x6, x7] := by
  obtain ⟨x0, r, rfl, g⟩ := exS h
  obtain ⟨x1, x2, x3, x4, x5, x6, x7, rfl⟩ := ex7 g
  exact ⟨x0, x1, x2, x3, x4, x5, x6, x7, rfl⟩
theorem ex9 {ρ : Rho} (h : ρ.length = 9) : ∃ x0 x1 x2 x3 x4 x5 x6 x7 x8, ρ = [x0, x1, x2, x3, x4, x5, x6, x7, x8] := by
  obtain ⟨x0, r, rfl, g⟩ := exS h
  obtain ⟨x1, x2, x3, x4, x5, x6, x7, x8, rfl⟩ := ex8 g
  exact ⟨x0, x1, x2, x3, x4, x5, x6, x7, x8, rfl⟩
theorem ex10 {ρ : Rho} (h : ρ.length = 10) : ∃ x0 x1 x2 x3 x4 x5 x6 x7 x8 x9, ρ = [x0, x1, x2, x3, x4, x5, x6, x7, x8, x9] := by
  obtain ⟨x0, r, rfl, g⟩ := exS h
  obtain ⟨x1, x2, x3, x4, x5, x6, x7, x8, x9, rfl⟩ := ex9 g
  exact ⟨x0, x1, x2, x3, x4, x5, x6, x7, x8, x9, rfl⟩
theorem ex11 {ρ : Rho} (h : ρ.length = 11) : ∃ x0 x1 x2 x3 x4 x5 x6 x7 x8 x9 x10, ρ = [x0, x1, x2, x3, x4, x5, x6, x7, x8, x9, x10] := by
  obtain ⟨x0, r, rfl, g⟩ := exS h
  obtain ⟨x1, x2, x3, x4, x5, x6, x7, x8, x9, x10, rfl⟩ := ex10 g
  exact ⟨x0, x1, x2, x3, x4, x5, x6, x7, x8, x9, x10, rfl⟩
theorem ex12 {ρ : Rho} (h : ρ.length = 12) : ∃ x0 x1 x2 x3 x4 x5 x6 x7 x8 x9 x10 x11, ρ = [x0, x1, x2, x3, x4, x5, x6, x7, x8, x9, x10, x11] := by
  obtain ⟨x0, r, rfl, g⟩ := exS h
  obtain ⟨x1, x2, x3, x4, x5, x6, x7, x8, x9, x10, x11, rfl⟩ := ex11 g
  exact ⟨x0, x1, x2, x3, x4, x5, x6, x7, x8, x9, x10, x11, rfl⟩
theorem ex13 {ρ : Rho} (h : ρ.length = 13) : ∃ x0 x1 x2 x3 x4 x5 x6 x7 x8 x9 x10 x11 x12, ρ = [x0, x1, x2, x3, x4, x5, x6, x7, x8, x9, x10, x11, x12] := by
  obtain ⟨x0, r, rfl, g⟩ := exS h
  obtain ⟨x1, x2, x3, x4, x5, x6, x7, x8, x9, x10, x11, x12, rfl⟩ := ex12 g
  exact ⟨x0, x1, x2, x3, x4, x5, x6, x7, x8, x9, x10, x11, x12, rfl⟩
theorem ex14 {ρ : Rho} (h : ρ.length = 14) : ∃ x0 x1 x2 x3 x4 x5 x6 x7 x8 x9 x10 x11 x12 x13, ρ = [x0, x1, x2, x3, x4, x5, x6, x7, x8, x9, x10, x11, x12, x13] := by
  obtain ⟨x0, r, rfl, g⟩ := exS h
  obtain ⟨x1, x2, x3, x4, x5, x6, x7, x8, x9, x10, x11, x12, x13, rfl⟩ := ex13 g
  exact ⟨x0, x1, x2, x3, x4, x5, x6, x7, x8, x9, x10, x11, x12, x13, rfl⟩
theorem ex15 {ρ : Rho} (h : ρ.length = 15) : ∃ x0 x1 x2 x3 x4 x5 x6 x7 x8 x9 x10 x11 x12 x13 x14, ρ = [x0, x1, x2, x3, x4, x5, x6, x7, x8, x9, x10, x11, x12, x13, x14] := by
  obtain ⟨x0, r, rfl, g⟩ := exS h
  obtain ⟨x1, x2, x3, x4, x5, x6, x7, x8, x9, x10, x11, x12, x13, x14, rfl⟩ := ex14 g
  exact ⟨x0, x1, x2, x3, x4, x5, x6, x7, x8, x9, x10, x11, x12, x13, x14, rfl⟩
theorem ex16 {ρ : Rho} (h : ρ.length = 16) : ∃ x0 x1 x2 x3 x4 x5 x6 x7 x8 x9 x10 x11 x12 x13 x14 x15, ρ = [x0, x1, x2, x3, x4, x5, x6, x7, x8, x9, x10, x11, x12, x13, x14, x15] := by
  obtain ⟨x0, r, rfl, g⟩ := exS h
  obtain ⟨x1, x2, x3, x4, x5, x6, x7, x8, x9, x10, x11, x12, x13, x14, x15, rfl⟩ := ex15 g
  exact ⟨x0, x1, x2, x3, x4, x5, x6, x7, x8, x9, x10, x11, x12, x13, x14, x15, rfl⟩
theorem ex17 {ρ : Rho} (h : ρ.length = 17) : ∃ x0 x1 x2 x3 x4 x5 x6 x7 x8 x9 x10 x11 x12 x13 x14 x15 x16, ρ = [x0, x1, x2, x3, x4, x5, x6, x7, x8, x9, x10, x11, x12, x13, x14, x15, x16] := by
  obtain ⟨x0, r, rfl, g⟩ := exS h
  obtain ⟨x1, x2, x3, x4, x5, x6, x7, x8, x9, x10, x11, x12, x13, x14, x15, x16, rfl⟩ := ex16 g
  exact ⟨x0, x1, x2, x3, x4, x5, x6, x7, x8, x9, x10, x11, x12, x13, x14, x15, x16, rfl⟩
theorem ex18 {ρ : Rho} (h : ρ.length = 18) : ∃ x0 x1 x2 x3 x4 x5 x6 x7 x8 x9 x10 x11 x12 x13 x14 x15 x16 x17, ρ = [x0, x1, x2, x3, x4, x5, x6, x7, x8, x9, x10, x11, x12, x13, x14, x15, x16, x17] := by
  obtain ⟨x0, r, rfl, g⟩ := exS h
  obtain ⟨x1, x2, x3, x4, x5, x6, x7, x8, x9, x10, x11, x12, x13, x14, x15, x16, x17, rfl⟩ := ex17 g
  exact ⟨x0, x1, x2, x3, x4, x5, x6, x7, x8, x9, x10, x11, x12, x13, x14, x15, x16, x17, rfl⟩
theorem ex19 {ρ : Rho} (h : ρ.length = 19) : ∃ x0 x1 x2 x3 x4 x5 x6 x7 x8 x9 x10 x11 x12 x13 x14 x15 x16 x17 x18, ρ = [x0, x1, x2, x3, x4, x5, x6, x7, x8, x9, x10, x11, x12, x13, x14, x15, x16, x17, x18] := by
  obtain ⟨x0, r, rfl, g⟩ := exS h
  obtain ⟨x1, x2, x3, x4, x5, x6, x7, x8, x9, x10, x11, x12, x13, x14, x15, x16, x17, x18, rfl⟩ := ex18 g
  exact ⟨x0, x1, x2, x3, x4, x5, x6, x7, x8, x9, x10, x11, x12, x13, x14, x15, x16, x17, x18, rfl⟩
theorem ex20 {ρ : Rho} (h : ρ.length = 20) : ∃ x0 x1 x2 x3 x4 x5 x6 x7 x8 x9 x10 x11 x12 x13 x14 x15 x16 x17 x18 x19, ρ = [x0, x1, x2, x3, x4, x5, x6, x7, x8, x9, x10, x11, x12, x13, x14, x15, x16, x17, x18, x19] := by
  obtain ⟨x0, r, rfl, g⟩ := exS h
  obtain ⟨x1, x2, x3, x4, x5, x6, x7, x8, x9, x10, x11, x12, x13, x14, x15, x16, x17, x18, x19, rfl⟩ := ex19 g
  exact ⟨x0, x1, x2, x3, x4, x5, x6, x7, x8, x9, x10, x11, x12, x13, x14, x15, x16, x17, x18, x19, rfl⟩
theorem ex21 {ρ : Rho} (h : ρ.length = 21) : ∃ x0 x1 x2 x3 x4 x5 x6 x7 x8 x9 x10 x11 x12 x13 x14 x15 x16 x17 x18 x19 x20, ρ = [x0, x1, x2, x3, x4, x5, x6, x7, x8, x9, x10, x11, x12, x13, x14, x15, x16, x17, x18, x19, x20] := by
  obtain ⟨x0, r, rfl, g⟩ := exS h
  obtain ⟨x1, x2, x3, x4, x5, x6, x7, x8, x9, x10, x11, x12, x13, x14, x15, x16, x17, x18, x19, x20, rfl⟩ := ex20 g
  exact ⟨x0, x1, x2, x3, x4, x5, x6, x7, x8, x9, x10, x11, x12, x13, x14, x15, x16, x17, x18, x19, x20, rfl⟩
theorem ex22 {ρ : Rho} (h : ρ.length = 22) : ∃ x0 x1 x2 x3 x4 x5 x6 x7 x8 x9 x10 x11 x12 x13 x14 x15 x16 x17 x18 x19 x20 x21, ρ = [x0, x1, x2, x3, x4, x5, x6, x7, x8, x9, x10, x11, x12, x13, x14, x15, x16, x17, x18, x19, x20, x21] := by
  obtain ⟨x0, r, rfl, g⟩ := exS h
  obtain ⟨x1, x2, x3, x4, x5, x6, x7, x8, x9, x10, x11, x12, x13, x14, x15, x16, x17, x18, x19, x20, x21, rfl⟩ := ex21 g
  exact ⟨x0, x1, x2, x3, x4, x5, x6, x7, x8, x9, x10, x11, x12, x13, x14, x15, x16, x17, x18, x19, x20, x21, rfl⟩
theorem ex23 {ρ : Rho} (h : ρ.length = 23) : ∃ x0 x1 x2 x3 x4 x5 x6 x7 x8 x9 x10 x11 x12 x13 x14 x15 x16 x17 x18 x19 x20 x21 x22, ρ = [x0, x1, x2, x3, x4, x5, x6, x7, x8, x9, x10, x11, x12, x13, x14, x15, x16, x17, x18, x19, x20, x21, x22] := by
  obtain ⟨x0, r, rfl, g⟩ := exS h
  obtain ⟨x1, x2, x3, x4, x5, x6, x7, x8, x9, x10, x11, x12, x13, x14, x15, x16, x17, x18, x19, x20, x21, x22, rfl⟩ := ex22 g
  exact ⟨x0, x1, x2, x3, x4, x5, x6, x7, x8, x9, x10, x11, x12, x13, x14, x15, x16, x17, x18, x19, x20, x21, x22, rfl⟩
theorem ex24 {ρ : Rho} (h : ρ.length = 24) : ∃ x0 x1 x2 x3 x4 x5 x6 x7 x8 x9 x10 x11 x12 x13 x14 x15 x16 x17 x18 x19 x20 x21 x22 x23, ρ = [x0, x1, x2, x3, x4, x5, x6, x7, x8, x9, x10, x11, x12, x13, x14, x15, x16, x17, x18, x19, x20, x21, x22, x23] := by
  obtain ⟨x0, r, rfl, g⟩ := exS h
  obtain ⟨x1, x2, x3, x4, x5, x6, x7, x8, x9, x10, x11, x12, x13, x14, x15, x16, x17, x18, x19, x20, x21, x22, x23, rfl⟩ := ex23 g
  exact ⟨x0, x1, x2, x3, x4, x5, x6, x7, x8, x9, x10, x11, x12, x13, x14, x15, x16, x17, x18, x19, x20, x21, x22, x23, rfl⟩
theorem ex25 {ρ : Rho} (h : ρ.length = 25) : ∃ x0 x1 x2 x3 x4 x5 x6 x7 x8 x9 x10 x11 x12 x13 x14 x15 x16 x17 x18 x19 x20 x21 x22 x23 x24, ρ = [x0, x1, x2, x3, x4, x5, x6, x7, x8, x9, x10, x11, x12, x13, x14, x15, x16, x17, x18, x19, x20, x21, x22, x23, x24] := by
  obtain ⟨x0, r, rfl, g⟩ := exS h
  obtain ⟨x1, x2, x3, x4, x5, x6, x7, x8, x9, x10, x11, x12, x13, x14, x15, x16, x17, x18, x19, x20, x21, x22, x23, x24, rfl⟩ := ex24 g
  exact ⟨x0, x1, x2, x3, x4, x5, x6, x7, x8, x9, x10, x11, x12, x13, x14, x15, x16, x17, x18, x19, x20, x21, x22, x23, x24, rfl⟩
theorem ex26 {ρ : Rho} (h : ρ.length = 26) : ∃ x0 x1 x2 x3 x4 x5 x6 x7 x8 x9 x10 x11 x12 x13 x14 x15 x16 x17 x18 x19 x20 x21 x22 x23 x24 x25, ρ = [x0, x1, x2, x3, x4, x5, x6, x7, x8, x9, x10, x11, x12, x13, x14, x15, x16, x17, x18, x19, x20, x21, x22, x23, x24, x25] := by
  obtain ⟨x0, r, rfl, g⟩ := exS h
  obtain ⟨x1, x2, x3, x4, x5, x6, x7, x8, x9, x10, x11, x12, x13, x14, x15, x16, x17, x18, x19, x20, x21, x22, x23, x24, x25, rfl⟩ := ex25 g
  exact ⟨x0, x1, x2, x3, x4, x5, x6, x7, x8, x9, x10, x11, x12, x13, x14, x15, x16, x17, x18, x19, x20, x21, x22, x23, x24, x25, rfl⟩
theorem ex27 {ρ : Rho} (h : ρ.length = 27) : ∃ x0 x1 x2 x3 x4 x5 x6 x7 x8 x9 x10 x11 x12 x13 x14 x15 x16 x17 x18 x19 x20 x21 x22 x23 x24 x25 x26, ρ = [x0, x1, x2, x3, x4, x5, x6, x7, x8, x9, x10, x11, x12, x13, x14, x15, x16, x17, x18, x19, x20, x21, x22, x23, x24, x25, x26] := by
  obtain ⟨x0, r, rfl, g⟩ := exS h
  obtain ⟨x1, x2, x3, x4, x5, x6, x7, x8, x9, x10, x11, x12, x13, x14, x15, x16, x17, x18, x19, x20, x21, x22, x23, x24, x25, x26, rfl⟩ := ex26 g
  exact ⟨x0, x1, x2, x3, x4, x5, x6, x7, x8, x9, x10, x11, x12, x13, x14, x15, x16, x17, x18, x19, x20, x21, x22, x23, x24, x25, x26, rfl⟩
theorem ex28 {ρ : Rho} (h : ρ.length = 28) : ∃ x0 x1 x2 x3 x4 x5 x6 x7 x8 x9 x10 x11 x12 x13 x14 x15 x16 x17 x18 x19 x20 x21 x22 x23 x24 x25 x26 x27, ρ = [x0, x1, x2, x3, x4, x5, x6, x7, x8, x9, x10, x11, x12, x13, x14, x15, x16, x17, x18, x19, x20, x21, x22, x23, x24, x25, x26, x27] := by
  obtain ⟨x0, r, rfl, g⟩ := exS h
  obtain ⟨x1, x2, x3, x4, x5, x6, x7, x8, x9, x10, x11, x12, x13, x14, x15, x16, x17, x18, x19, x20, x21, x22, x23, x24, x25, x26, x27, rfl⟩ := ex27 g
  exact ⟨x0, x1, x2, x3, x4, x5, x6, x7, x8, x9, x10, x11, x12, x13, x14, x15, x16, x17, x18, x19, x20, x21, x22, x23, x24, x25, x26, x27, rfl⟩
theorem ex29 {ρ : Rho} (h : ρ.length = 29) : ∃ x0 x1 x2 x3 x4 x5 x6 x7 x8 x9 x10 x11 x12 x13 x14 x15 x16 x17 x18 x19 x20 x21 x22 x23 x24 x25 x26 x27 x28, ρ = [x0, x1, x2, x3, x4, x5, x6, x7, x8, x9, x10, x11, x12, x13, x14, x15, x16, x17, x18, x19, x20, x21, x22, x23, x24, x25, x26, x27, x28] := by
  obtain ⟨x0, r, rfl, g⟩ := exS h
  obtain ⟨x1, x2, x3, x4, x5, x6, x7, x8, x9, x10, x11, x12, x13, x14, x15, x16, x17, x18, x19, x20, x21, x22, x23, x24, x25, x26, x27, x28, rfl⟩ := ex28 g
  exact ⟨x0, x1, x2, x3, x4, x5, x6, x7, x8, x9, x10, x11, x12, x13, x14, x15, x16, x17, x18, x19, x20, x21, x22, x23, x24, x25, x26, x27, x28, rfl⟩
theorem ex30 {ρ : Rho} (h : ρ.length = 30) : ∃ x0 x1 x2 x3 x4 x5 x6 x7 x8 x9 x10 x11 x12 x13 x14 x15 x16 x17 x18 x19 x20 x21 x22 x23 x24 x25 x26 x27 x28 x29, ρ = [x0, x1, x2, x3, x4, x5, x6, x7, x8, x9, x10, x11, x12, x13, x14, x15, x16, x17, x18, x19, x20, x21, x22, x23, x24, x25, x26, x27, x28, x29] := by
  obtain ⟨x0, r, rfl, g⟩ := exS h
  obtain ⟨x1, x2, x3, x4, x5, x6, x7, x8, x9, x10, x11, x12, x13, x14, x15, x16, x17, x18, x19, x20, x21, x22, x23, x24, x25, x26, x27, x28, x29, rfl⟩ := ex29 g
  exact ⟨x0, x1, x2, x3, x4, x5, x6, x7, x8, x9, x10, x11, x12, x13, x14, x15, x16, x17, x18, x19, x20, x21, x22, x23, x24, x25, x26, x27, x28, x29, rfl⟩
theorem ex31 {ρ : Rho} (h : ρ.length = 31) : ∃ x0 x1 x2 x3 x4 x5 x6 x7 x8 x9 x10 x11 x12 x13 x14 x15 x16 x17 x18 x19 x20 x21 x22 x23 x24 x25 x26 x27 x28 x29 x30, ρ = [x0, x1, x2, x3, x4, x5, x6, x7, x8, x9, x10, x11, x12, x13, x14, x15, x16, x17, x18, x19, x20, x21, x22, x23, x24, x25, x26, x27, x28, x29, x30] := by
  obtain ⟨x0, r, rfl, g⟩ := exS h
  obtain ⟨x1, x2, x3, x4, x5, x6, x7, x8, x9, x10, x11, x12, x13, x14, x15, x16, x17, x18, x19, x20, x21, x22, x23, x24, x25, x26, x27, x28, x29, x30, rfl⟩ := ex30 g
  exact ⟨x0, x1, x2, x3, x4, x5, x6, x7, x8, x9, x10, x11, x12, x13, x14, x15, x16, x17, x18, x19, x20, x21, x22, x23, x24, x25, x26, x27, x28, x29, x30, rfl⟩
theorem ex32 {ρ : Rho} (h : ρ.length = 32) : ∃ x0 x1 x2 x3 x4 x5 x6 x7 x8 x9 x10 x11 x12 x13 x14 x15 x16 x17 x18 x19 x20 x21 x22 x23 x24 x25 x26 x27 x28 x29 x30 x31, ρ = [x0, x1, x2, x3, x4, x5, x6, x7, x8, x9, x10, x11, x12, x13, x14, x15, x16, x17, x18, x19, x20, x21, x22, x23, x24, x25, x26, x27, x28, x29, x30, x31] := by
  obtain ⟨x0, r, rfl, g⟩ := exS h
  obtain ⟨x1, x2, x3, x4, x5, x6, x7, x8, x9, x10, x11, x12, x13, x14, x15, x16, x17, x18, x19, x20, x21, x22, x23, x24, x25, x26, x27, x28, x29, x30, x31, rfl⟩ := ex31 g
  exact ⟨x0, x1, x2, x3, x4, x5, x6, x7, x8, x9, x10, x11, x12, x13, x14, x15, x16, x17, x18, x19, x20, x21, x22, x23, x24, x25, x26, x27, x28, x29, x30, x31, rfl⟩
theorem ex33 {ρ : Rho} (h : ρ.length = 33) : ∃ x0 x1 x2 x3 x4 x5 x6 x7 x8 x9 x10 x11 x12 x13 x14 x15 x16 x17 x18 x19 x20 x21 x22 x23 x24 x25 x26 x27 x28 x29 x30 x31 x32, ρ = [x0, x1, x2, x3, x4, x5, x6, x7, x8, x9, x10, x11, x12, x13, x14, x15, x16, x17, x18, x19, x20, x21, x22, x23, x24, x25, x26, x27, x28, x29, x30, x31, x32] := by
  obtain ⟨x0, r, rfl, g⟩ := exS h
  obtain ⟨x1, x2, x3, x4, x5, x6, x7, x8, x9, x10, x11, x12, x13, x14, x15, x16, x17, x18, x19, x20, x21, x22, x23, x24, x25, x26, x27, x28, x29, x30, x31, x32, rfl⟩ := ex32 g
  exact ⟨x0, x1, x2, x3, x4, x5, x6, x7, x8, x9, x10, x11, x12, x13, x14, x15, x16, x17, x18, x19, x20, x21, x22, x23, x24, x25, x26, x27, x28, x29, x30, x31, x32, rfl⟩
theorem ex34 {ρ : Rho} (h : ρ.length = 34) : ∃ x0 x1 x2 x3 x4 x5 x6 x7 x8 x9 x10 x11 x12 x13 x14 x15 x16 x17 x18 x19 x20 x21 x22 x23 x24 x25 x26 x27 x28 x29 x30 x31 x32 x33, ρ = [x0, x1, x2, x3, x4, x5, x6, x7, x8, x9, x10, x11, x12, x13, x14, x15, x16, x17, x18, x19, x20, x21, x22, x23, x24, x25, x26, x27, x28, x29, x30, x31, x32, x33] := by
  obtain ⟨x0, r, rfl, g⟩ := exS h
  obtain ⟨x1, x2, x3, x4, x5, x6, x7, x8, x9, x10, x11, x12, x13, x14, x15, x16, x17, x18, x19, x20, x21, x22, x23, x24, x25, x26, x27, x28, x29, x30, x31, x32, x33, rfl⟩ := ex33 g
  exact ⟨x0, x1, x2, x3, x4, x5, x6, x7, x8, x9, x10, x11, x12, x13, x14, x15, x16, x17, x18, x19, x20, x21, x22, x23, x24, x25, x26, x27, x28, x29, x30, x31, x32, x33, rfl⟩
theorem ex35 {ρ : Rho} (h : ρ.length = 35) : ∃ x0 x1 x2 x3 x4 x5 x6 x7 x8 x9 x10 x11 x12 x13 x14 x15 x16 x17 x18 x19 x20 x21 x22 x23 x24 x25 x26 x27 x28 x29 x30 x31 x32 x33 x34, ρ = [x0, x1, x2, x3, x4, x5, x6, x7, x8, x9, x10, x11, x12, x13, x14, x15, x16, x17, x18, x19, x20, x21, x22, x23, x24, x25, x26, x27, x28, x29, x30, x31, x32, x33, x34] := by
  obtain ⟨x0, r, rfl, g⟩ := exS h
  obtain ⟨x1, x2, x3, x4, x5, x6, x7, x8, x9, x10, x11, x12, x13, x14, x15, x16, x17, x18, x19, x20, x21, x22, x23, x24, x25, x26, x27, x28, x29, x30, x31, x32, x33, x34, rfl⟩ := ex34 g
  exact ⟨x0, x1, x2, x3, x4, x5, x6, x7, x8, x9, x10, x11, x12, x13, x14, x15, x16, x17, x18, x19, x20, x21, x22, x23, x24, x25, x26, x27, x28, x29, x30, x31, x32, x33, x34, rfl⟩
theorem ex36 {ρ : Rho} (h : ρ.length = 36) : ∃ x0 x1 x2 x3 x4 x5 x6 x7 x8 x9 x10 x11 x12 x13 x14 x15 x16 x17 x18 x19 x20 x21 x22 x23 x24 x25 x26 x27 x28 x29 x30 x31 x32 x33 x34 x35, ρ = [x0, x1, x2, x3, x4, x5, x6, x7, x8, x9, x10, x11, x12, x13, x14, x15, x16, x17, x18, x19, x20, x21, x22, x23, x24, x25, x26, x27, x28, x29, x30, x31, x32, x33, x34, x35] := by
  obtain ⟨x0, r, rfl, g⟩ := exS h
  obtain ⟨x1, x2, x3, x4, x5, x6, x7, x8, x9, x10, x11, x12, x13, x14, x15, x16, x17, x18, x19, x20, x21, x22, x23, x24, x25, x26, x27, x28, x29, x30, x31, x32, x33, x34, x35, rfl⟩ := ex35 g
  exact ⟨x0, x1, x2, x3, x4, x5, x6, x7, x8, x9, x10, x11, x12, x13, x14, x15, x16, x17, x18, x19, x20, x21, x22, x23, x24, x25, x26, x27, x28, x29, x30, x31, x32, x33, x34, x35, rfl⟩
theorem ex37 {ρ : Rho} (h : ρ.length = 37) : ∃ x0 x1 x2 x3 x4 x5 x6 x7 x8 x9 x10 x11 x12 x13 x14 x15 x16 x17 x18 x19 x20 x21 x22 x23 x24 x25 x26 x27 x28 x29 x30 x31 x32 x33 x34 x35 x36, ρ = [x0, x1, x2, x3, x4, x5, x6, x7, x8, x9, x10, x11, x12, x13, x14, x15, x16, x17, x18, x19, x20, x21, x22, x23, x24, x25, x26, x27, x28, x29, x30, x31, x32, x33, x34, x35, x36] := by
  obtain ⟨x0, r, rfl, g⟩ := exS h
  obtain ⟨x1, x2, x3, x4, x5, x6, x7, x8, x9, x10, x11, x12, x13, x14, x15, x16, x17, x18, x19, x20, x21, x22, x23, x24, x25, x26, x27, x28, x29, x30, x31, x32, x33, x34, x35, x36, rfl⟩ := ex36 g
  exact ⟨x0, x1, x2, x3, x4, x5, x6, x7, x8, x9, x10, x11, x12, x13, x14, x15, x16, x17, x18, x19, x20, x21, x22, x23, x24, x25, x26, x27, x28, x29, x30, x31, x32, x33, x34, x35, x36, rfl⟩
theorem ex38 {ρ : Rho} (h : ρ.length = 38) : ∃ x0 x1 x2 x3 x4 x5 x6 x7 x8 x9 x10 x11 x12 x13 x14 x15 x16 x17 x18 x19 x20 x21 x22 x23 x24 x25 x26 x27 x28 x29 x30 x31 x32 x33 x34 x35 x36 x37, ρ = [x0, x1, x2, x3, x4, x5, x6, x7, x8, x9, x10, x11, x12, x13, x14, x15, x16, x17, x18, x19, x20, x21, x22, x23, x24, x25, x26, x27, x28, x29, x30, x31, x32, x33, x34, x35, x36, x37] := by
  obtain ⟨x0, r, rfl, g⟩ := exS h
  obtain ⟨x1, x2, x3, x4, x5, x6, x7, x8, x9, x10, x11, x12, x13, x14, x15, x16, x17, x18, x19, x20, x21, x22, x23, x24, x25, x26, x27, x28, x29, x30, x31, x32, x33, x34, x35, x36, x37, rfl⟩ := ex37 g
  exact ⟨x0, x1, x2, x3, x4, x5, x6, x7, x8, x9, x10, x11, x12, x13, x14, x15, x16, x17, x18, x19, x20, x21, x22, x23, x24, x25, x26, x27, x28, x29, x30, x31, x32, x33, x34, x35, x36, x37, rfl⟩
theorem ex39 {ρ : Rho} (h : ρ.length = 39) : ∃ x0 x1 x2 x3 x4 x5 x6 x7 x8 x9 x10 x11 x12 x13 x14 x15 x16 x17 x18 x19 x20 x21 x22 x23 x24 x25 x26 x27 x28 x29 x30 x31 x32 x33 x34 x35 x36 x37 x38, ρ = [x0, x1, x2, x3, x4, x5, x6, x7, x8, x9, x10, x11, x12, x13, x14, x15, x16, x17, x18, x19, x20, x21, x22, x23, x24, x25, x26, x27, x28, x29, x30, x31, x32, x33, x34, x35, x36, x37, x38] := by
  obtain ⟨x0, r, rfl, g⟩ := exS h
  obtain ⟨x1, x2, x3, x4, x5, x6, x7, x8, x9, x10, x11, x12, x13, x14, x15, x16, x17, x18, x19, x20, x21, x22, x23, x24, x25, x26, x27, x28, x29, x30, x31, x32, x33, x34, x35, x36, x37, x38, rfl⟩ := ex38 g
  exact ⟨x0, x1, x2, x3, x4, x5, x6, x7, x8, x9, x10, x11, x12, x13, x14, x15, x16, x17, x18, x19, x20, x21, x22, x23, x24, x25, x26, x27, x28, x29, x30, x31, x32, x33, x34, x35, x36, x37, x38, rfl⟩
theorem ex40 {ρ : Rho} (h : ρ.length = 40) : ∃ x0 x1 x2 x3 x4 x5 x6 x7 x8 x9 x10 x11 x12 x13 x14 x15 x16 x17 x18 x19 x20 x21 x22 x23 x24 x25 x26 x27 x28 x29 x30 x31 x32 x33 x34 x35 x36 x37 x38 x39, ρ = [x0, x1, x2, x3, x4, x5, x6, x7, x8, x9, x10, x11, x12, x13, x14, x15, x16, x17, x18, x19, x20, x21, x22, x23, x24, x25, x26, x27, x28, x29, x30, x31, x32, x33, x34, x35, x36, x37, x38, x39] := by
  obtain ⟨x0, r, rfl, g⟩ := exS h
  obtain ⟨x1, x2, x3, x4, x5, x6, x7, x8, x9, x10, x11, x12, x13, x14, x15, x16, x17, x18, x19, x20, x21, x22, x23, x24, x25, x26, x27, x28, x29, x30, x31, x32, x33, x34, x35, x36, x37, x38, x39, rfl⟩ := ex39 g
  exact ⟨x0, x1, x2, x3, x4, x5, x6, x7, x8, x9, x10, x11, x12, x13, x14, x15, x16, x17, x18, x19, x20, x21, x22, x23, x24, x25, x26, x27, x28, x29, x30, x31, x32, x33, x34, x35, x36, x37, x38, x39, rfl⟩
end DL

set_option maxHeartbeats 2000000
/-! iterators that end, tuples that are taken apart, while an exception is handled -/
namespace DL
open PySem PySem.Spec
open PyProof.Rows hiding St
open L2 HotX
open L2H hiding St
section
variable {prog : Program} {w : World} {A : Around} {E : Value → Shared → Prop} {s : Shared}
theorem hot_keep {h h' : Heap} {x1 : Addr} (hot : HotAt A x1 h) (k : ∀ o, h.get? x1 = some o → h'.get? x1 = some o) : HotAt A x1 h' := by
  obtain ⟨hh, o1, vs1, h1, d1, c1⟩ := hot
  exact ⟨hh, o1, vs1, k _ h1, d1, c1⟩
theorem hot_lt {h : Heap} {x1 : Addr} (hot : HotAt A x1 h) : x1 < h.objs.size := by
  obtain ⟨hh, o1, vs1, h1, d1, c1⟩ := hot
  exact Heap.lt_size h1
/-- a new StopIteration is made and raised -/
theorem stop_hot {α : Type} {x1 : Addr} {Q : α → Shared → Prop} (hot : HotAt A x1 s.heap)
    (hE : ∀ h' e, (∀ b o, s.heap.get? b = some o → h'.get? b = some o) → (∃ o, h'.get? e = some o ∧ o.cls = .type "StopIteration") → E (.ref e) { s with heap := h' }) :
    wpAny (model prog w) A (newExc (.type "StopIteration") [] >>= fun e => (raiseNew e : Sem α)) Q E s := by
  refine wpAny_bind ?_
  simp only [newExc, newTuple]
  refine wpAny_bind (wpAny_newObj_type ?_ (by size_fits))
  refine wpAny_bind (m := firstArgMember _ _) (wpAny_of_eq (a := Value.none) (by first | rfl | (simp only [firstArgMember]; rfl)) ?_)
  refine wpAny_newObj_type ?_ (by size_fits)
  have k2 : ∀ b o, s.heap.get? b = some o → ∀ p q : Obj, ((s.heap.push p).push q).get? b = some o := fun b o e p q => Heap.get?_push_of_some _ (Heap.get?_push_of_some _ e)
  refine raiseNew_hot (hot_keep hot fun o e => k2 x1 o e _ _) (Nat.ne_of_lt ?_) (Heap.get?_push_size _ rfl) rfl (by first | (simp; done) | (simp; omega) | (simp only [Array.size_append]; simp; omega)) ?_
  · rw [Heap.size_push]
    exact Nat.lt_succ_of_lt (hot_lt hot)
  · refine hE _ _ (fun b o e => ?_) ⟨_, Heap.get?_update_self _ (Heap.get?_push_size _ rfl) rfl, by rw [Obj.cls_mapFields]⟩
    rw [Heap.get?_update_other _ _ (Nat.ne_of_gt (by rw [Heap.size_push]; exact Nat.lt_succ_of_lt (Heap.lt_size e)))]
    exact k2 b o e _ _
theorem nextOf_list_hot {it l x1 : Addr} {i : Nat} {items : Array Value} {Q : Value → Shared → Prop} (hot : HotAt A x1 s.heap) (nx : x1 ≠ it)
    (hit : s.heap.IsListIter it l i) (hl : s.heap.IsList l items) (hx : items[i]? = none)
    (hE : ∀ h' e, Heap.ExtBut it s.heap h' → (∃ o, h'.get? e = some o ∧ o.cls = .type "StopIteration") → E (.ref e) { s with heap := h' }) :
    wpAny (model prog w) A (Builtin.SmallTypes.nextOf (.ref it)) Q E s := by
  obtain ⟨o, ho, hc, hd⟩ := id hit
  obtain ⟨ol, hol, _, nl, hdl⟩ := hl
  unfold Builtin.SmallTypes.nextOf
  refine wpAny_bind (wpAny_callSpecial?_slot (name := Str.ofString "__next__") hit.typeIs slot_listiter_next
    (wpAny_call_entry slot_listiter_next hit.typeIs entry_listiter_next ?_ (args_listiter_next _)))
  show wpAny _ _ (field (.ref it) 0 >>= _) _ _ s
  refine wpAny_bind (wpAny_field ho hd (x := .ref l) rfl ?_)
  show wpAny _ _ (if (Value.ref l == Value.none) = true then _ else _) _ _ s
  rw [if_neg (show ¬ ((Value.ref l == Value.none) = true) from Bool.false_ne_true)]
  show wpAny _ _ (field (.ref it) 1 >>= _) _ _ s
  refine wpAny_bind (wpAny_field ho hd (x := .int i 0) rfl ?_)
  show wpAny _ _ (seqItems? (.ref l) >>= _) _ _ s
  refine wpAny_bind (wpAny_seqItems hol hdl ?_)
  simp only [Int.toNat_natCast, hx]
  refine wpAny_bind (wpAny_rule (wpAny_bind (wpAny_setField ho hd (by simp) ?_)))
  have sb := Heap.SameBut.update s.heap it (Obj.mapFields (·.setIfInBounds 0 .none))
  refine stop_hot (x1 := x1) (hot_keep (A := A.in1) hot fun o e => (sb.2 x1 nx).trans e) fun h' e k he => hE h' e (fun c oc hc q => k c oc ((sb.2 c hc).trans q)) he
/-- zip's next, the first list or the second at its end -/
theorem zip_hot {z TI TO i1 i2 l1 l2 x1 : Addr} {k1 k2 : Nat} {xs ys : Array Value} {a b : Value} {Q : Fin → Shared → Prop} (hot : HotAt A x1 s.heap) (nz : x1 ≠ z ∧ x1 ≠ TO ∧ x1 ≠ i1 ∧ x1 ≠ i2) (D : ZipApart z TI TO i1 i2 l1 l2)
    (hz : IsZip s.heap z TI TO .none) (hTI : IsPair s.heap TI (.ref i1) (.ref i2)) (hTO : IsPair s.heap TO a b)
    (h1 : s.heap.IsListIter i1 l1 k1) (h2 : s.heap.IsListIter i2 l2 k2) (hl1 : s.heap.IsList l1 xs) (hl2 : s.heap.IsList l2 ys) (hend : xs[k1]? = none ∨ ys[k2]? = none)
    (hE : ∀ h' e, (∀ c o, c ≠ z → c ≠ TO → c ≠ i1 → c ≠ i2 → s.heap.get? c = some o → h'.get? c = some o) → (∃ o, h'.get? e = some o ∧ o.cls = .type "StopIteration") → E (.ref e) { s with heap := h' }) :
    wpAny (model prog w) A (Builtin.«zip.__next__» ⟨[.ref z], []⟩) Q E s := by
  show wpAny _ _ (field (.ref z) 2 >>= _) _ _ _
  refine wpAny_bind (wpAny_field hz rfl (x := .bool false) rfl ?_)
  show wpAny _ _ (field (.ref z) 3 >>= _) _ _ _
  refine wpAny_bind (wpAny_field hz rfl (x := .ref TI) rfl ?_)
  refine wpAny_bind (wpAny_seqItems hTI rfl ?_)
  show wpAny _ _ (Builtin.SmallTypes.ownedTupleIsFree (.ref z) >>= _) _ _ _
  refine wpAny_bind ?_
  unfold Builtin.SmallTypes.ownedTupleIsFree
  refine wpAny_bind (wpAny_field hz rfl (x := .none) rfl (wpAny_pure ?_))
  simp only [if_true]
  refine wpAny_bind (wpAny_rule ?_)
  refine wpAny_bind (wpAny_field hz rfl (x := .ref TO) rfl ?_)
  refine wpAny_bind (wpAny_setField_rec hz (by simp) fun h₁ hz₁ hs₁ => ?_)
  replace hz₁ : IsZip h₁ z TI TO .ellipsis := hz₁
  have hot1 : HotAt A x1 h₁ := hot_keep hot fun o e => hs₁.extBut _ _ nz.1 e
  refine wpAny_bind ?_
  simp only [List.zipIdx_cons, List.zipIdx_nil, List.forIn_cons, List.forIn_nil]
  refine wpAny_bind (wpAny_bind (wpAny_onRaise ?_))
  show wpAny _ _ (Builtin.SmallTypes.nextOf (.ref i1) >>= _) _ _ _
  cases hx : xs[k1]? with
  | none =>
    refine wpAny_bind (nextOf_list_hot hot1 nz.2.2.1 (h1.extBut hs₁.extBut D.i1z) (hl1.extBut hs₁.extBut D.l1z) hx fun h₂ e hs₂ ⟨oe, hoe, hce⟩ => ?_)
    have hz₂ : IsZip h₂ z TI TO .ellipsis := hs₂ _ _ D.i1z.symm hz₁
    have hez : e ≠ z := fun q => by rw [q, hz₂] at hoe; cases hoe; simp at hce
    refine wpAny_setField_rec hz₂ (by simp) fun h₃ _ hs₃ => hE h₃ e (fun c o c1 _ c3 _ q => hs₃.extBut _ _ c1 (hs₂ _ _ c3 (hs₁.extBut _ _ c1 q))) ⟨oe, hs₃.extBut _ _ hez hoe, hce⟩
  | some x =>
    have hy : ys[k2]? = none := hend.resolve_left fun q => by rw [hx] at q; cases q
    refine wpAny_bind (wpAny_nextOf_list_item (h1.extBut hs₁.extBut D.i1z) (hl1.extBut hs₁.extBut D.l1z) hx fun h₂ h1₂ hs₂ => wpAny_pure ?_)
    have hTO₂ : IsPair h₂ TO a b := hs₂.extBut _ _ D.TOi1 (hs₁.extBut _ _ D.TOz hTO)
    refine wpAny_bind (wpAny_seqItems hTO₂ rfl ?_)
    refine wpAny_bind (wpAny_updateSeq_pair hTO₂ fun h₃ hTO₃ hs₃ => ?_)
    refine wpAny_bind (wpAny_letGo (wpAny_pure ?_))
    refine wpAny_bind (wpAny_bind (wpAny_onRaise ?_))
    show wpAny _ _ (Builtin.SmallTypes.nextOf (.ref i2) >>= _) _ _ _
    have hot3 : HotAt A x1 h₃ := hot_keep hot1 fun o e => hs₃.extBut _ _ nz.2.1 (hs₂.extBut _ _ nz.2.2.1 e)
    refine wpAny_bind (nextOf_list_hot hot3 nz.2.2.2 (((h2.extBut hs₁.extBut D.i2z).extBut hs₂.extBut D.i12.symm).extBut hs₃.extBut D.TOi2.symm)
      (((hl2.extBut hs₁.extBut D.l2z).extBut hs₂.extBut D.l2i1).extBut hs₃.extBut D.l2TO) hy fun h₄ e hs₄ ⟨oe, hoe, hce⟩ => ?_)
    have hz₄ : IsZip h₄ z TI TO .ellipsis := hs₄ _ _ D.i2z.symm (hs₃.extBut _ _ D.TOz.symm (hs₂.extBut _ _ D.i1z.symm hz₁))
    have hez : e ≠ z := fun q => by rw [q, hz₄] at hoe; cases hoe; simp at hce
    refine wpAny_setField_rec hz₄ (by simp) fun h₅ _ hs₅ => hE h₅ e (fun c o c1 c2 c3 c4 q => hs₅.extBut _ _ c1 (hs₄ _ _ c4 (hs₃.extBut _ _ c2 (hs₂.extBut _ _ c3 (hs₁.extBut _ _ c1 q))))) ⟨oe, hs₅.extBut _ _ hez hoe, hce⟩
theorem pyNext_zip_hot {z TI TO i1 i2 l1 l2 x1 : Addr} {k1 k2 : Nat} {xs ys : Array Value} {a b : Value} {Q : Option Value → Shared → Prop} (hot : HotAt A x1 s.heap) (nz : x1 ≠ z ∧ x1 ≠ TO ∧ x1 ≠ i1 ∧ x1 ≠ i2) (D : ZipApart z TI TO i1 i2 l1 l2)
    (hz : IsZip s.heap z TI TO .none) (hTI : IsPair s.heap TI (.ref i1) (.ref i2)) (hTO : IsPair s.heap TO a b)
    (h1 : s.heap.IsListIter i1 l1 k1) (h2 : s.heap.IsListIter i2 l2 k2) (hl1 : s.heap.IsList l1 xs) (hl2 : s.heap.IsList l2 ys) (hend : xs[k1]? = none ∨ ys[k2]? = none)
    (hQ : ∀ h', (∀ c o, c ≠ z → c ≠ TO → c ≠ i1 → c ≠ i2 → s.heap.get? c = some o → h'.get? c = some o) → Q none { s with heap := h' }) : wpAny (model prog w) A (pyNext (.ref z)) Q E s := by
  have hT : s.TypeIs (.ref z) "zip" := ⟨_, hz, rfl⟩
  unfold pyNext
  refine wpAny_bind (wpAny_attempt (wpAny_callSpecial?_slot (name := Str.ofString "__next__") hT F.slot_zip_next
    (wpAny_call_entry F.slot_zip_next hT F.entry_zip_next (zip_hot (A := A.in1) hot nz D hz hTI hTO h1 h2 hl1 hl2 hend fun h' e hk ⟨o, ho, hc⟩ => ?_) (F.args_zip_next_1 _))))
  exact wpAny_bind (wpAny_isInstance (T := "StopIteration") (b := true) ⟨o, ho, hc⟩ isSubtype_stop (wpAny_pure (hQ _ hk)))
/-- a tuple that is taken apart -/
theorem next_tuple_hot {it t x1 : Addr} {i : Nat} {items : Array Value} {Q : Option Value → Shared → Prop} (hot : HotAt A x1 s.heap) (nx : x1 ≠ it)
    (hit : IsTupIter s.heap it t i) (ht : IsTup s.heap t items) (hx : items[i]? = none)
    (hQ : ∀ h', Heap.ExtBut it s.heap h' → Q none { s with heap := h' }) : wpAny (model prog w) A (pyNext (.ref it)) Q E s := by
  obtain ⟨o, ho, hc, hd⟩ := id hit
  obtain ⟨ol, hol, _, nl, hdl⟩ := ht
  unfold pyNext
  refine wpAny_bind (wpAny_attempt (wpAny_callSpecial?_slot (name := Str.ofString "__next__") hit.typeIs slot_tupleiter_next
    (wpAny_call_entry slot_tupleiter_next hit.typeIs entry_tupleiter_next ?_ (args_tupleiter_next _))))
  show wpAny _ _ (field (.ref it) 0 >>= _) _ _ s
  refine wpAny_bind (wpAny_field ho hd (x := .ref t) rfl ?_)
  show wpAny _ _ (if (Value.ref t == Value.none) = true then _ else _) _ _ s
  rw [if_neg (show ¬ ((Value.ref t == Value.none) = true) from Bool.false_ne_true)]
  show wpAny _ _ (field (.ref it) 1 >>= _) _ _ s
  refine wpAny_bind (wpAny_field ho hd (x := .int i 0) rfl ?_)
  show wpAny _ _ (seqItems? (.ref t) >>= _) _ _ s
  refine wpAny_bind (wpAny_seqItems hol hdl ?_)
  simp only [Int.toNat_natCast, hx]
  refine wpAny_bind (wpAny_rule (wpAny_bind (wpAny_setField ho hd (by simp) ?_)))
  have sb := Heap.SameBut.update s.heap it (Obj.mapFields (·.setIfInBounds 0 .none))
  refine stop_hot (x1 := x1) (hot_keep (A := A.in1) hot fun o e => (sb.2 x1 nx).trans e) fun h' e k ⟨oe, hoe, hce⟩ => ?_
  refine wpAny_bind (wpAny_isInstance (T := "StopIteration") (b := true) ⟨oe, hoe, hce⟩ isSubtype_stop ?_)
  exact wpAny_pure (hQ _ fun c oc hc' q => k c oc ((sb.2 c hc').trans q))
theorem unpackItems_hot {t x1 : Addr} {items : Array Value} {Q : List Value → Shared → Prop} (hot : HotAt A x1 s.heap) (ht : IsTup s.heap t items)
    (hQ : ∀ h', Heap.ExtBut s.heap.objs.size s.heap h' → Q items.toList { s with heap := h' }) : wpAny (model prog w) A (unpackItems (.ref t) items.size none) Q E s := by
  have hlt : t ≠ s.heap.objs.size := by obtain ⟨o, ho, _⟩ := ht; exact Nat.ne_of_lt (Heap.lt_size ho)
  have nx : x1 ≠ s.heap.objs.size := Nat.ne_of_lt (hot_lt hot)
  unfold unpackItems
  refine wpAny_bind ?_
  unfold notIterableAtAll
  refine wpAny_bind (wpAny_specialOf ht.typeIs slot_tuple_iter.lookup (wpAny_pure ?_))
  simp only [Bool.false_eq_true, if_false]
  refine wpAny_bind (wpAny_holding (iter_tuple ht ?_))
  refine wpAny_bind (wpAny_holding (draw_tuple hlt items.size 0 _ _ ⟨_, Heap.get?_push_size _ rfl, rfl, rfl⟩ (ht.push _) (by omega) fun h₁ hit₁ hs₁ => ?_))
  have hall : List.take items.size (List.drop 0 items.toList) = items.toList := by
    rw [List.drop_zero]; exact List.take_of_length_le (by simp)
  rw [hall, if_neg (by simp)]
  have ht₁ : IsTup h₁ t items := (ht.push _).extBut hs₁.extBut hlt
  have hot₁ : HotAt A x1 h₁ := hot_keep hot fun o e => hs₁.extBut _ _ nx (Heap.get?_push_of_some _ e)
  refine wpAny_bind (wpAny_holding (next_tuple_hot hot₁ nx hit₁ ht₁ (by simp) fun h₂ he₂ => ?_))
  simp only [Option.isSome_none, Bool.false_eq_true, if_false]
  exact wpAny_pure (hQ h₂ fun b o hb e => he₂ b o hb (hs₁.extBut b o hb (Heap.get?_push_of_some _ e)))
theorem assign_tuple_hot {env : Env} {elts : List Expr} {k : Nat} {pos : Pos} {t x1 : Addr} {items : Array Value} {Q : Unit → Shared → Prop} (hot : HotAt A x1 s.heap) (ht : IsTup s.heap t items)
    (hn : (assignEach elts env).length = items.size) (hstar : (assignEach elts env).findIdx? (·.1) = none)
    (h : ∀ h', Heap.ExtBut s.heap.objs.size s.heap h' → wpAny (model prog w) A (assignInOrder ((assignEach elts env).map (·.2)) items.toList) Q E { s with heap := h' }) :
    wpAny (model prog w) A (assign (.Tuple elts k pos) env (.ref t)) Q E s := by
  rw [assign_Tuple]
  refine wpAny_bind (wpAny_standAt ?_)
  unfold unpack
  rw [hn, hstar]
  exact wpAny_bind (wpAny_holding (unpackItems_hot hot ht h))
end
end DL

set_option maxHeartbeats 2000000
/-! list comprehensions, told of the state at which the block begins, in contexts of a kind C (calm ones, or while an exception is handled) -/
namespace DL
open PySem PySem.Spec
open PyProof.Rows hiding St
open L2 HotX
open L2H hiding St
def Calm (X : Cx) : Prop := X.calm = true
def HotP (p : Addr × Obj) (X : Cx) : Prop := Hot1 X.A p ∧ p ∈ X.pn
theorem HotP.at {p : Addr × Obj} {X : Cx} {pins : List (Addr × Obj)} {σ : St} {H : Hp} {s : Shared} (c : HotP p X) (I : Inv X pins σ H s) : HotAt X.A p.1 s.heap := by
  obtain ⟨⟨hh, v1, e1, c1⟩, hp⟩ := c
  exact ⟨hh, p.2, v1, (I.pin p (List.mem_append_left _ hp)).1, e1, c1⟩
theorem HotP.c {p : Addr × Obj} {X : Cx} (c : HotP p X) : HotC X := ⟨p, c.1, c.2⟩
structure TurnG (C : Cx → Prop) (P : Program) (w : World) (K : PySem.W.Frag) (tg : Expr) (J : It) (fp : List Addr) (it : Addr) (tn : Nat → Heap → Prop) : Prop where
  mem : it ∈ fp
  obj : ∀ i h, tn i h → ∀ b ∈ fp, ∃ o, h.get? b = some o ∧ ∀ v, o.data ≠ .cell v
  keep : ∀ i h h', tn i h → (∀ b ∈ fp, ∀ o, h.get? b = some o → h'.get? b = some o) → tn i h'
  item : ∀ (X : Cx), X.prog = P → X.w = w → X.K = K → C X → ∀ (i : Nat) (pins : List (Addr × Obj)) (s : Shared) (σ : St) (H : Hp) (E : Value → Shared → Prop), Inv X pins σ H s → (∀ b ∈ fp, FpOk X pins H b) → tn i s.heap → J.go i H →
    wpAny (model P w) X.A (pyNext (.ref it)) (fun r s1 => ∃ u, r = some u ∧
      wpAny (model P w) X.A (letOwnedTupleGo tg (.ref it) u) (fun _ s2 => ∃ x H', Inv X pins σ H' s2 ∧ RelV x u ∧ J.yld i H x H' ∧ tn (i + 1) s2.heap ∧ ∀ b ∈ fp, H' b = none) E s1) E s
  done : ∀ (X : Cx), X.prog = P → X.w = w → X.K = K → C X → ∀ (i : Nat) (pins : List (Addr × Obj)) (s : Shared) (σ : St) (H : Hp) (E : Value → Shared → Prop), Inv X pins σ H s → (∀ b ∈ fp, FpOk X pins H b) → tn i s.heap → J.stop i H →
    wpAny (model P w) X.A (pyNext (.ref it)) (fun r s1 => r = none ∧ Inv X pins σ H s1) E s
  self : ∀ (A : Around) (i : Nat) (s : Shared) (Q : Value → Shared → Prop) (E : Value → Shared → Prop), tn i s.heap → Q (.ref it) s → wpAny (model P w) A (pyIter (.ref it)) Q E s
theorem TurnG.of {P : Program} {w : World} {K : PySem.W.Frag} {tg : Expr} {J : It} {fp : List Addr} {it : Addr} {tn : Nat → Heap → Prop} (T : Turn P w K tg J fp it tn) : TurnG Calm P w K tg J fp it tn := ⟨T.mem, T.obj, T.keep, T.item, T.done, T.self⟩
def PIEG (C : Cx → Prop) (X : Cx) (pins : List (Addr × Obj)) (σ : St) (tg : Expr) (R : It → Hp → Prop) (itv : Value) (s2 : Shared) : Prop :=
  ∃ (it : Addr) (fp : List Addr) (tn : Nat → Heap → Prop) (J : It) (H' : Hp), itv = .ref it ∧ Inv X pins σ H' s2 ∧ TurnG C X.prog X.w X.K tg J fp it tn ∧ tn 0 s2.heap ∧ (∀ b ∈ fp, FpOk X pins H' b) ∧ R J H'
structure PIG (C : Cx → Prop) (X : Cx) (tg iter : Expr) (wi : TI) : Prop where
  run : ∀ (pins : List (Addr × Obj)) (s : Shared) (σ : St) (H : Hp) (R : It → Hp → Prop), Inv X pins σ H s → wi σ H R →
    wpAny (model X.prog X.w) X.A (eval iter X.env) (fun v s1 => wpAny (model X.prog X.w) X.A (pyIter v) (PIEG C X pins σ tg R) X.xe s1) X.xe s
theorem PIG.of {X : Cx} {tg iter : Expr} {wi : TI} (h : PI X tg iter wi) : PIG Calm X tg iter wi := ⟨fun pins s σ H R I q => thn (h.run pins s σ H R I q) fun v s1 h1 => thn h1 fun itv s2 ⟨it, fp, tn, J, H', e, I', T, r⟩ => ⟨it, fp, tn, J, H', e, I', .of T, r⟩⟩
/-! ### zip of two lists, hot -/
theorem turn_zipH {P : Program} {w : World} {K : PySem.W.Frag} {elts : List Expr} {kk : Nat} {tpos : Pos} {p : Addr × Obj} {a b z TI TO i1 i2 : Addr} (D : ZipApart z TI TO i1 i2 a b) :
    TurnG (HotP p) P w K (.Tuple elts kk tpos) (Itz K a b) [z, TI, TO, i1, i2] z (fun i h => IsZip h z TI TO .none ∧ IsPair h TI (.ref i1) (.ref i2) ∧ (∃ x y, IsPair h TO x y) ∧ h.IsListIter i1 a i ∧ h.IsListIter i2 b i) := by
  have T := turn_zip (P := P) (w := w) (K := K) (elts := elts) (kk := kk) (tpos := tpos) D
  refine ⟨T.mem, T.obj, T.keep, ?_, ?_, T.self⟩
  · intro X hP hw hK hc i pins s σ H E I hf st hg
    subst hP hw hK
    obtain ⟨hz, hTI, ⟨x0, y0, hTO⟩, h1, h2⟩ := st
    obtain ⟨xs, ys, x, y, hqx, hqy, hx, hy⟩ := hg
    obtain ⟨its, rv, q1, _⟩ := I.list hqx
    obtain ⟨its2, rv2, q2, _⟩ := I.list hqy
    obtain ⟨u, hu, ru⟩ := rv.get hx
    obtain ⟨u2, hu2, ru2⟩ := rv2.get hy
    have hzl : z < s.heap.objs.size := Heap.lt_size hz
    refine wpAny_pyNext_zip_item D hz hTI hTO h1 h2 q1.isList q2.isList (x := u) (y := u2) (by simpa using hu) (by simpa using hu2) fun h' z' TO' h1' h2' hT hsz hk => ?_
    refine ⟨_, rfl, wpAny_letOwnedTupleGo_zip (s := { s with heap := h' }) z' fun h'' z'' sb => ?_⟩
    have hT2 : h''.get? s.heap.objs.size = some { cls := .type "tuple", data := .seq #[u, u2] } := (sb.2 _ (Nat.ne_of_gt hzl)).trans hT
    have both : ∀ c o, c ∉ [z, TI, TO, i1, i2] → s.heap.get? c = some o → h''.get? c = some o := fun c o hb q => by
      simp only [List.mem_cons, List.not_mem_nil, or_false, not_or] at hb
      exact (sb.2 c hb.1).trans (hk c o hb.1 hb.2.2.1 hb.2.2.2.1 hb.2.2.2.2 q)
    have I1 := I.turnedNew (t' := s.toks) (ch := [z, TI, TO, i1, i2]) (T := s.heap.objs.size) (ob := .tup [x, y]) both hf (Nat.le_refl _)
      ⟨by show 2 ≤ sizeLine; decide, [u, u2], .cons ru (.cons ru2 .nil), ⟨_, hT2, rfl, _, rfl⟩⟩
    refine ⟨.ref s.heap.objs.size, _, I1, rfl, ⟨_, x, y, rfl, I.hok.fresh (Nat.le_refl _), rfl, fun l hl => by rw [I.list_inj hl hqx]; exact hx, fun l hl => by rw [I.list_inj hl hqy]; exact hy⟩, ⟨z'', (sb.2 _ D.TIz).trans (hk _ _ D.TIz D.TITO D.TIi1 D.TIi2 hTI), ⟨u, u2, (sb.2 _ D.TOz).trans TO'⟩, h1'.at fun o q => (sb.2 _ D.i1z).trans q, h2'.at fun o q => (sb.2 _ D.i2z).trans q⟩, fun c hcm => ?_⟩
    have hlt : c < s.heap.objs.size := by
      obtain ⟨o, e, _⟩ := T.obj i s.heap ⟨hz, hTI, ⟨x0, y0, hTO⟩, h1, h2⟩ c hcm
      exact Heap.lt_size e
    rw [upd_ne (Nat.ne_of_lt hlt)]
    exact (hf c hcm).1
  · intro X hP hw hK hc i pins s σ H E I hf st hg
    subst hP hw hK
    obtain ⟨hz, hTI, ⟨x0, y0, hTO⟩, h1, h2⟩ := st
    obtain ⟨xs, ys, hqx, hqy, hend⟩ := hg
    obtain ⟨its, rv, q1, _⟩ := I.list hqx
    obtain ⟨its2, rv2, q2, _⟩ := I.list hqy
    have l1 := rv.length
    have l2 := rv2.length
    have he : its.toArray[i]? = none ∨ its2.toArray[i]? = none := hend.imp (fun q => by simp; omega) fun q => by simp; omega
    have nb : ∀ c ∈ [z, TI, TO, i1, i2], p.1 ≠ c := fun c h => (hf c h).2.2.2.2.2 p (List.mem_append_left _ hc.2)
    refine pyNext_zip_hot (hc.at I) ⟨nb z (by simp), nb TO (by simp), nb i1 (by simp), nb i2 (by simp)⟩ D hz hTI hTO h1 h2 q1.isList q2.isList he fun h' hk => ⟨rfl, I.turnedL (t' := s.toks) (ch := [z, TI, TO, i1, i2]) (fun c o hb q => ?_) hf⟩
    simp only [List.mem_cons, List.not_mem_nil, or_false, not_or] at hb
    exact hk c o hb.1 hb.2.2.1 hb.2.2.2.1 hb.2.2.2.2 q
theorem pi_zipH {X : Cx} {pp : Addr × Obj} {e e2 : Expr} {ta : TA} {p pos tpos : Pos} {elts : List Expr} {kk : Nat} (hg : Gl X "zip") (hm : X.mg "zip" = none) (ha : PA X [e, e2] ta)
    (hs : starEach [e, e2] X.env = (false, eval e X.env) :: starEach [e2] X.env := by rfl) (hpl : (backTo pos (starEach [e2] X.env)).any (·.1) = false := by rfl) :
    PIG (HotP pp) X (.Tuple elts kk tpos) (.Call (.Name "zip" p) [e, e2] [] pos) (iZip X.K ta) := by
  refine ⟨fun pins s σ H R I h => ?_⟩
  refine Call_ (ld_blt I hg hm PyProof.Rows.boot_zip (PyProof.Rows.callWith_type1 (thn (ha.run pos pins s σ H _ I h) fun us s1 ⟨vs, H1, I1, r1, a, b, xs, ys, ex, hqx, hqy, q⟩ => ?_) hs hpl))
  subst ex
  cases r1 with
  | cons r rr =>
    cases rr with
    | cons r' rr =>
      cases rr
      cases r
      cases r'
      obtain ⟨its, rv, p1, _⟩ := I1.list hqx
      obtain ⟨its2, rv2, p2, _⟩ := I1.list hqy
      refine call_zip_2 p1.isList p2.isList fun h' hz hTI hTO h1 h2 hsz hk => wpAny_pyIter_zip hz ?_
      refine ⟨s1.heap.objs.size + 4, [s1.heap.objs.size + 4, s1.heap.objs.size + 2, s1.heap.objs.size + 3, s1.heap.objs.size, s1.heap.objs.size + 1], _, _, H1, rfl, I1.kept (t' := s1.toks) hk, turn_zipH (PySem.W.ktu_apart s1.heap.objs.size a b p1.lt p2.lt), ⟨hz, hTI, ⟨_, _, hTO⟩, h1, h2⟩, fun c hcm => ?_, q⟩
      have hle : s1.heap.objs.size ≤ c := by
        simp only [List.mem_cons, List.not_mem_nil, or_false] at hcm
        rcases hcm with z | z | z | z | z <;> rw [z] <;> first | exact Nat.le_refl _ | exact Nat.le_add_right _ _
      exact I1.fpOk hle (I1.hok.fresh hle)
theorem pg_tupH {X : Cx} {p : Addr × Obj} {pos : Pos} {es : List Expr} {k : Nat} {t : TGs} {n : Nat} (hc : HotP p X) (h : PGs X es t)
    (hn : (assignEach es X.env).length = n := by rfl) (hst : (assignEach es X.env).findIdx? (·.1) = none := by rfl) : PG X (.Tuple es k pos) (gTup X.K n t) := by
  refine ⟨fun pins s σ H v u Q I r ⟨a, xs, e1, hq, hl, hw⟩ => ?_⟩
  subst e1
  cases r
  obtain ⟨its, rv, ht, hz⟩ := I.tuple hq
  refine assign_tuple_hot (hc.at I) ht (by simp [hn, ← hl, rv.length]) hst fun h' hx => ?_
  exact h.run pins _ σ H xs _ Q (I.kept (t' := s.toks) fun b o e => hx b o (Nat.ne_of_lt (Heap.lt_size e)) e) (by simpa using rv) hw
/-! ### the comprehension -/
abbrev blkG (X : Cx) (s : Shared) (H : Hp) (scope : Scope) (cenv : Env) (fp : List Addr) (pn : List (Addr × Obj)) : Cx := { X.blk s H scope cenv fp with pn := pn }
theorem lc_coreG {C : Cx → Prop} {X : Cx} {pn pins : List (Addr × Obj)} {s : Shared} {σ : St} {H : Hp} {Q : VK} {elt tg iter : Expr} {ifs : List Expr} {scope : Scope} {own : List (Str × Nat)} {pos pos' : Pos} {wi : TI} {g : TG} {tt : TT} {te : TE} {use : Option (Value → Sem Unit)} {Qf : Value → Shared → Prop}
    (hpn : ∀ q ∈ pn, q ∈ X.pn) (hC : ∀ (s : Shared) (H : Hp) (cenv : Env) (fp : List Addr), C (blkG X s H scope cenv fp pn)) (hN : X.N.Nodup) (I : Inv X pins σ H s) (hi : PIG C X tg iter wi) (ok : BlkOk X.N X.env.scope scope own)
    (hg : ∀ (s : Shared) (H : Hp) (A : Addr) (cl : List (Str × Addr)) (fp : List Addr), PG (blkG X s H scope (compEnvC scope cl A X.env) fp pn) tg g) (ht : ∀ (s : Shared) (H : Hp) (A : Addr) (cl : List (Str × Addr)) (fp : List Addr), (∃ pins σ, Inv X pins σ H s ∧ ∀ b ∈ fp, FpOk X pins H b) → PTs (blkG X s H scope (compEnvC scope cl A X.env) fp pn) ifs tt)
    (he : ∀ (s : Shared) (H : Hp) (A : Addr) (cl : List (Str × Addr)) (fp : List Addr), (∃ pins σ, Inv X pins σ H s ∧ ∀ b ∈ fp, FpOk X pins H b) → PE (blkG X s H scope (compEnvC scope cl A X.env) fp pn) elt te) (hs : ∀ x, foldedSetIterable iter X.env x = pure x)
    (h : tLc wi g tt te (own.map (·.2)) σ H Q)
    (hRR : ∀ D A s' m H', Inv X pins σ H' s' → Q (.ref D) H' → s'.heap.Ns A m → FpOk X pins H' A → compPost (model X.prog X.w) X.A X.xe use Qf (.ref D) A (.ok .next) s') :
    wpAny (model X.prog X.w) X.A (comprehension (.ListComp elt [⟨tg, iter, ifs, 0⟩] scope pos) scope X.env pos' (newList []) false (eval iter X.env) use) Qf X.xe s := by
  have hfree : ∀ y ∈ scope.names, y.2 = .free → ∃ c, X.env.cells.lookup y.1 = some c := fun y hy e => I.ok.has _ (ok.free y hy e)
  refine wpAny_comprehension_free (use := use) rfl hs (closure_ok hfree) ok.kind (fun y hy e => by rw [ok.uniq y hy, e])
    (thn (hi.run pins s σ H _ I h) fun xv s1 hx => thn hx fun itv s2 ⟨it, fp, tn, J, H2, e, I2, T, st2, f2, q⟩ => ?_)
  subst e
  refine wpAny_newObj_type (newEnv_comp ?_) (by show 0 ≤ sizeLine; decide)
  generalize hD : s2.heap.objs.size = D
  have hDn : H2 D = none := I2.hok.fresh (Nat.le_of_eq hD)
  obtain ⟨W, ⟨m0, w0⟩, turn⟩ := q D hDn
  generalize hs3 : ({ s2 with heap := s2.heap.push { cls := .type "list", data := .seq ([] : List Value).toArray } } : Shared) = s3
  have h3 : s3.heap = s2.heap.push { cls := .type "list", data := .seq ([] : List Value).toArray } := by rw [← hs3]
  have I3 : Inv X pins σ (upd H2 D (.lst [])) s3 := by
    rw [← hs3]
    exact I2.laid (t' := s2.toks) (fun b o e => Heap.get?_push_of_some _ e) (Nat.le_of_eq hD) ⟨Nat.zero_le _, [], 0, .nil, by rw [← hD]; exact Heap.get?_push_size _ rfl⟩
  have f3 : ∀ b ∈ fp, FpOk X pins (upd H2 D (.lst [])) b ∧ b < s3.heap.objs.size := fun b hb => by
    obtain ⟨o, e, _⟩ := T.obj _ _ st2 b hb
    have hlt := Heap.lt_size e
    exact ⟨⟨by rw [upd_ne (by rw [← hD]; exact Nat.ne_of_lt hlt)]; exact (f2 b hb).1, (f2 b hb).2⟩, by rw [h3, Heap.size_push]; exact Nat.lt_succ_of_lt hlt⟩
  have st3 : tn 0 s3.heap := T.keep _ _ _ st2 fun b _ o e => by rw [h3]; exact Heap.get?_push_of_some _ e
  have I4 := block_start I3 ok hN f3
  generalize hH3 : upd H2 D (.lst []) = H3 at I3 I4 w0 f3
  have link : ∃ pins σ, Inv X pins σ H3 s3 ∧ ∀ b ∈ fp, FpOk X pins H3 b := ⟨pins, σ, I3, fun b hb => (f3 b hb).1⟩
  have pg := hg s3 H3 s3.heap.objs.size (cellsFrom (s3.heap.objs.size + 1) scope.names (cloFrom X.env.cells scope.names [])) fp
  have pt := ht s3 H3 s3.heap.objs.size (cellsFrom (s3.heap.objs.size + 1) scope.names (cloFrom X.env.cells scope.names [])) fp link
  have pe := he s3 H3 s3.heap.objs.size (cellsFrom (s3.heap.objs.size + 1) scope.names (cloFrom X.env.cells scope.names [])) fp link
  have cB := hC s3 H3 (compEnvC scope (cellsFrom (s3.heap.objs.size + 1) scope.names (cloFrom X.env.cells scope.names [])) s3.heap.objs.size X.env) fp
  show codeAny _ _ (.compStart (.ListComp elt [⟨tg, iter, ifs, 0⟩] scope pos) 0 (.ref it) (.ref D) (compEnvC scope (cellsFrom (s3.heap.objs.size + 1) scope.names (cloFrom X.env.cells scope.names [])) s3.heap.objs.size X.env)) (compPost (model X.prog X.w) X.A X.xe use Qf (.ref D) s3.heap.objs.size) { s3 with heap := pushCells (s3.heap.push { cls := .type "dict", data := .dict #[] }) scope.names }
  have nfp : ∀ b ∈ fp, H3 b = none := fun b hb => (f3 b hb).1.1
  have pinT : ∀ q ∈ pn ++ ([] : List (Addr × Obj)), (pushCells (s3.heap.push { cls := .type "dict", data := .dict #[] }) scope.names).get? q.1 = some q.2 ∧ H3 q.1 = none ∧ q.1 ≠ s3.heap.objs.size ∧ q.1 ∉ frs X.stack ∧ ∀ v, q.2.data ≠ .cell v := fun q hq => by
    have z := I3.pin q (List.mem_append_left _ (hpn q (by simpa using hq)))
    exact ⟨pushCells_keeps _ _ _ _ (Heap.get?_push_of_some _ z.1), z.2.1, Nat.ne_of_lt (Heap.lt_size z.1), fun hm => (List.mem_cons.mp (I3.stkSub q.1 hm)).elim z.2.2.1 z.2.2.2.1, z.2.2.2.2⟩
  generalize hce : compEnvC scope (cellsFrom (s3.heap.objs.size + 1) scope.names (cloFrom X.env.cells scope.names [])) s3.heap.objs.size X.env = ce at I4 pg pt pe cB ⊢
  have cL : ce.locals = s3.heap.objs.size := by subst hce; rfl
  generalize hs4 : ({ s3 with heap := pushCells (s3.heap.push { cls := .type "dict", data := .dict #[] }) scope.names } : Shared) = s4 at I4 ⊢
  have h4 : s4.heap = pushCells (s3.heap.push { cls := .type "dict", data := .dict #[] }) scope.names := by rw [← hs4]
  have st4 : tn 0 s4.heap := T.keep _ _ _ st3 fun b _ o e => by rw [h4]; exact pushCells_keeps _ _ _ _ (Heap.get?_push_of_some _ e)
  have J4 : Inv (blkG X s3 H3 scope ce fp pn) [] (wipe σ (own.map (·.2))) H3 s4 :=
    ⟨⟨I4.ok.mod, I4.ok.kind, I4.ok.glob, I4.ok.blt, I4.ok.above, I4.ok.inj, I4.ok.has, I4.ok.cab, I4.ok.hd, I4.ok.frames, I4.ok.stk, I4.ok.exf, I4.ok.bs, I4.ok.bsz, I4.ok.noex, I4.ok.exfs, I4.ok.funs, I4.ok.frf⟩, I4.os, I4.bare, I4.base, I4.loc, I4.cell, I4.free, I4.freeC, fun q hq => by
      have z := pinT q hq
      exact ⟨by rw [h4]; exact z.1, z.2.1, by show q.1 ≠ ce.locals; rw [cL]; exact z.2.2.1, z.2.2.2⟩, I4.hok, I4.len⟩
  have fpn : ∀ b ∈ fp, ∀ q ∈ pn, q.1 ≠ b := fun b hb q hq => (f3 b hb).1.2.2.2.2.2 q (List.mem_append_left _ (hpn q hq))
  have stat : ∀ {σ' : St} {H' : Hp} {s' : Shared}, Inv (blkG X s3 H3 scope ce fp pn) [] σ' H' s' → (∀ b ∈ fp, H' b = none) → ∀ b ∈ fp, FpOk (blkG X s3 H3 scope ce fp pn) [] H' b := fun {σ' H' s'} I' hn b hb =>
    ⟨hn b hb, (I'.ok.exf b hb).1, I'.ok.exfs b hb, .inl hb, fun x c e => (I'.ok.exf b hb).2 x c e, fun q hq => fpn b hb q (by simpa using hq)⟩
  have loop : codeAny (model X.prog X.w) X.A (.compLoop (.ListComp elt [⟨tg, iter, ifs, 0⟩] scope pos) 0 (.ref it) (.ref D) ce) (compPost (model X.prog X.w) X.A X.xe use Qf (.ref D) s3.heap.objs.size) s4 := by
    refine compLoop_any (fun n s' => ∃ i H', Inv (blkG X s3 H3 scope ce fp pn) [] (wipe σ (own.map (·.2))) H' s' ∧ tn i s'.heap ∧ (∀ b ∈ fp, H' b = none) ∧ W i n H') ?_ m0 ⟨0, H3, J4, st4, nfp, w0⟩
    rintro n s5 ⟨i, H5, I5, st5, n5, w5⟩
    rcases turn i n H5 w5 with ⟨stop, qq⟩ | ⟨go, Nx, hNx, step⟩
    · refine thnF (T.done (blkG X s3 H3 scope ce fp pn) rfl rfl rfl cB i [] s5 _ H5 (fun _ _ => False) I5 (stat I5 n5) st5 stop) fun r s6 ⟨hr, I6⟩ => ?_
      subst hr
      have I7 : Inv X pins σ H5 s6 := I3.call' (ch := fp) I6.os I6.base I6.hok I6.bare fun b hb => ⟨(f3 b hb).1.2.2.2.1, (f3 b hb).1.2.1, (f3 b hb).1.2.2.2.2.1, (f3 b hb).1.2.2.2.2.2⟩
      have nC : H5 s3.heap.objs.size = none := cL ▸ I6.free
      obtain ⟨m, hn, _⟩ := I6.loc
      exact hRR D s3.heap.objs.size s6 m H5 I7 qq (cL ▸ hn) (I3.fpOk (Nat.le_refl _) nC)
    · refine thnF (T.item (blkG X s3 H3 scope ce fp pn) rfl rfl rfl cB i [] s5 _ H5 (fun _ _ => False) I5 (stat I5 n5) st5 go) fun r s6 ⟨u, hr, h6⟩ => ?_
      subst hr
      refine thnF h6 fun _ s7 ⟨x, H7, I7, r7, y7, st7, n7⟩ => ?_
      have I7' := I7.pinned (stat I7 n7) (T.obj _ _ st7)
      refine thnF (pg.run _ s7 _ H7 x u _ I7' r7 (step x H7 y7)) fun _ s8 ⟨σ8, H8, I8, hw8, q8⟩ => ?_
      refine thnF (pt.run _ s8 σ8 H8 _ I8 q8) fun b s9 ⟨H9, I9, q9⟩ => ?_
      have fin : ∀ {s' : Shared} {H' : Hp}, Inv (blkG X s3 H3 scope ce fp pn) ([] ++ pinsAt fp s7.heap) σ8 H' s' → Nx H' → ∃ m, m < n ∧ ∃ i H', Inv (blkG X s3 H3 scope ce fp pn) [] (wipe σ (own.map (·.2))) H' s' ∧ tn i s'.heap ∧ (∀ b ∈ fp, H' b = none) ∧ W i m H' := fun {s' H'} I' nx => by
        obtain ⟨m', hm, w'⟩ := hNx H' nx
        have pin' : ∀ b ∈ fp, ∀ o, s7.heap.get? b = some o → s'.heap.get? b = some o ∧ H' b = none := fun b hb o e =>
          let z := I'.pin (b, o) (List.mem_append_right _ (List.mem_append_right _ (mem_pinsAt hb e)))
          ⟨z.1, z.2.1⟩
        refine ⟨m', hm, i + 1, H', (I'.unpinned (pins := [])).weak (by rw [← hw8, wipe_length]) (fun j v e => ?_), T.keep _ _ _ st7 fun b hb o e => (pin' b hb o e).1, fun b hb => ?_, w'⟩
        · rw [← hw8] at e
          exact (wipe_some e).1
        · obtain ⟨o, e, _⟩ := T.obj _ _ st7 b hb
          exact (pin' b hb o e).2
      cases b with
      | false =>
        simp only [Bool.false_eq_true, if_false] at q9 ⊢
        exact fin I9 q9
      | true =>
        simp only [if_true] at q9 ⊢
        refine thnF (pe.run _ s9 σ8 H9 _ I9 q9) fun z s10 ⟨yv, H10, I10, r10, acc, hD10, hz10, nx⟩ => ?_
        exact app_ok (X := blkG X s3 H3 scope ce fp pn) I10 hD10 hz10 r10 fun s11 I11 => fin I11 nx
  exact codeAny_compStart_list loop (T.self X.A 0 _ _ _ st4 loop)
theorem pe_lcG {C : Cx → Prop} {X : Cx} {pn : List (Addr × Obj)} {elt tg iter : Expr} {ifs : List Expr} {scope : Scope} {own : List (Str × Nat)} {pos : Pos} {wi : TI} {g : TG} {tt : TT} {te : TE} (hpn : ∀ q ∈ pn, q ∈ X.pn) (hC : ∀ (s : Shared) (H : Hp) (cenv : Env) (fp : List Addr), C (blkG X s H scope cenv fp pn)) (hN : X.N.Nodup) (hi : PIG C X tg iter wi) (ok : BlkOk X.N X.env.scope scope own)
    (hg : ∀ (s : Shared) (H : Hp) (A : Addr) (cl : List (Str × Addr)) (fp : List Addr), PG (blkG X s H scope (compEnvC scope cl A X.env) fp pn) tg g) (ht : ∀ (s : Shared) (H : Hp) (A : Addr) (cl : List (Str × Addr)) (fp : List Addr), (∃ pins σ, Inv X pins σ H s ∧ ∀ b ∈ fp, FpOk X pins H b) → PTs (blkG X s H scope (compEnvC scope cl A X.env) fp pn) ifs tt)
    (he : ∀ (s : Shared) (H : Hp) (A : Addr) (cl : List (Str × Addr)) (fp : List Addr), (∃ pins σ, Inv X pins σ H s ∧ ∀ b ∈ fp, FpOk X pins H b) → PE (blkG X s H scope (compEnvC scope cl A X.env) fp pn) elt te) (hs : ∀ x, foldedSetIterable iter X.env x = pure x := by intro _; rfl) :
    PE X (.ListComp elt [⟨tg, iter, ifs, 0⟩] scope pos) (tLc wi g tt te (own.map (·.2))) := by
  refine ⟨fun pins s σ H Q I h => ?_⟩
  rw [eval_ListComp]
  refine lc_coreG hpn hC hN I hi ok hg ht he hs h fun D A s' m H' I' q hn ⟨f0, f1, f2, f3, f4, f5⟩ => ⟨m, hn, fun h'' sb => ?_⟩
  exact ⟨.ref D, H', I'.turned (t' := s'.toks) (fun b o hb e => (sb.2 b hb).trans e) f0 f1 f3 f4 f5, rfl, q⟩
end DL

namespace DL
open PySem PySem.Spec
open PyProof.Rows hiding St
open L2
/-! ## a slice of what is drawn -/
@[simp] def slE (f : Rho → Option (D × Rho)) (gl gh : Rho → Option (Option Int)) : Rho → Option (D × Rho) := fun ρ => (f ρ).bind fun p => (gl p.2).bind fun lo => (gh p.2).bind fun hi => (slcD p.1 lo hi).bind fun z => some (z, p.2)
section
variable {X : Cx} {B : Base} {m : Md} {e : Expr} {lo hi : Option Expr} {g : Rho → Option D} {f : Rho → Option (D × Rho)} {gl gh : Rho → Option (Option Int)} {pos p2 : Pos}
theorem de_slice (he : DE X B e f) (hl : DPO X B .str lo gl) (hh : DPO X B .str hi gh) : DE X B (.Subscript e (.Slice lo hi none p2) pos) (slE f gl gh) :=
  ⟨(pe_slice (sl_list.or sl_tupA) he.pe hl.po hh.po).imp fun σ H Q ⟨O, ρ, d, ρ', gd, e, q⟩ => by
    obtain ⟨⟨x, ρ1⟩, e1, e'⟩ := bind_some e
    obtain ⟨l, e2, e''⟩ := bind_some e'
    obtain ⟨h, e3, e4⟩ := bind_some e''
    obtain ⟨z, e5, e6⟩ := bind_some e4
    cases e6
    refine ⟨O, ρ, x, _, gd, e1, fun v H1 s1 r1 => ⟨O, _, l, s1.good, e2, fun H2 s2 => ⟨O, _, h, s1.good.same s2, e3, fun H3 s3 => ?_⟩⟩⟩
    have s13 := (s1.samr s2).samr s3
    have r3 := (r1.same s2).same s3
    cases x with
    | list xs =>
      cases e5
      simp only [Rep] at r3
      obtain ⟨a, vs, rfl, no, ha, r⟩ := r3
      exact .inl ⟨a, vs, rfl, .of ha, fun p hp => q _ _ (s13.samr (same_upd hp)) (rep_lst (s13.good.otr .str) hp (cut_rep r))⟩
    | tuple xs =>
      cases e5
      simp only [Rep] at r3
      obtain ⟨a, vs, rfl, ha, r⟩ := r3
      refine .inr ⟨a, vs, rfl, .of ha, fun hw => ?_, fun _ p hp => q _ _ (s13.samr (same_upd hp)) (rep_tup hp (cut_rep r))⟩
      refine q _ H3 s13 ?_
      have hc : cutV vs l h = vs := by
        unfold cutV
        rw [hw.1, hw.2]
        simp
      have := cut_rep (lo := l) (hi := h) r
      rw [hc] at this
      simp only [Rep]
      exact ⟨a, vs, rfl, ha, this⟩
    | _ => cases e5⟩
end
/-! ## list(range(..)) -/
@[simp] def lrgD : List D → Option D
  | [.int j] => if -1000000 ≤ j ∧ j ≤ 1000000 then some (.list (rngL 0 j.toNat)) else none
  | [.int i, .int j] => if -1000000 ≤ i ∧ i ≤ 1000000 ∧ -1000000 ≤ j ∧ j ≤ 1000000 then some (.list (rngL i (j - i).toNat)) else none
  | _ => none
theorem rep_rg {O : Addr → Prop} {H : Hp} (a b : Int) : RepL O H (rngL a (b - a).toNat) (rgV a b) := by
  unfold rngL rgV
  generalize (b - a).toNat = n
  induction List.range n with
  | nil => exact .nil
  | cons k ks ih => exact .cons (rep_int.mpr rfl) ih
section
variable {X : Cx} {B : Base} {m : Md} {a b e : Expr} {ga gb : Rho → Option D} {pos p pos2 q2 : Pos}
theorem dp_lrg1 (hc : X.calm = true) (hm : X.mg "list" = none) (hr : X.mg "range" = none) (ha : DP X B m a ga) (hg : Gl X "list" := by rfl) (hgr : Gl X "range" := by rfl) (na : starEach [a] X.env = (false, eval a X.env) :: starEach [] X.env := by rfl)
    (nl : starEach [Expr.Call (.Name "range" q2) [a] [] pos2] X.env = (false, eval (.Call (.Name "range" q2) [a] [] pos2) X.env) :: starEach [] X.env := by rfl) :
    DP X B m (.Call (.Name "list" p) [.Call (.Name "range" q2) [a] [] pos2] [] pos) (nD (consA ga nilA) lrgD) :=
  ⟨(pe_listRg hc hg hm (prg_1 hgr hr ha.pe na) nl).imp fun σ H Q ⟨O, ρ, d, gd, e, q⟩ => by
    obtain ⟨ds, e1, e2⟩ := bind_some e
    obtain ⟨d1, e3, e4⟩ := bind_some e1
    cases e4
    refine ⟨O, ρ, d1, gd, e3, fun v H1 s1 r1 => ?_⟩
    cases d1 with
    | int j =>
      simp only [lrgD] at e2
      split at e2
      · next hj =>
        cases e2
        refine ⟨j, rep_int.mp r1, ⟨by omega, by omega, by omega, by omega, by omega⟩, fun l hl => q _ _ (s1.trans (same_upd hl)) (rep_lst ((gd.same s1).otr m) hl ?_)⟩
        have := rep_rg (O := m.O B O) (H := H1) 0 j
        rwa [Int.sub_zero] at this
      · cases e2
    | _ => simp [lrgD] at e2⟩
theorem dp_lrg2 (hc : X.calm = true) (hm : X.mg "list" = none) (hr : X.mg "range" = none) (ha : DP X B m a ga) (hb : DP X B m b gb) (hg : Gl X "list" := by rfl) (hgr : Gl X "range" := by rfl) (na : starEach [a, b] X.env = (false, eval a X.env) :: starEach [b] X.env := by rfl)
    (nb : starEach [b] X.env = (false, eval b X.env) :: starEach [] X.env := by rfl) (hp : (backTo pos2 (starEach [b] X.env)).any (·.1) = false := by rfl)
    (nl : starEach [Expr.Call (.Name "range" q2) [a, b] [] pos2] X.env = (false, eval (.Call (.Name "range" q2) [a, b] [] pos2) X.env) :: starEach [] X.env := by rfl) :
    DP X B m (.Call (.Name "list" p) [.Call (.Name "range" q2) [a, b] [] pos2] [] pos) (nD (consA ga (consA gb nilA)) lrgD) :=
  ⟨(pe_listRg hc hg hm (prg_2 hgr hr ha.pe hb.pe na nb hp) nl).imp fun σ H Q ⟨O, ρ, d, gd, e, q⟩ => by
    obtain ⟨ds, e1, e2⟩ := bind_some e
    obtain ⟨d1, e3, e4⟩ := bind_some e1
    obtain ⟨ds2, e5, e6⟩ := bind_some e4
    obtain ⟨d2, e7, e8⟩ := bind_some e5
    cases e8
    cases e6
    refine ⟨O, ρ, d1, gd, e3, fun v H1 s1 r1 => ⟨O, ρ, d2, gd.same s1, e7, fun w H2 s2 r2 => ?_⟩⟩
    cases d1 with
    | int i =>
      cases d2 with
      | int j =>
        simp only [lrgD] at e2
        split at e2
        · next hj =>
          cases e2
          refine ⟨i, j, rep_int.mp (r1.same s2), rep_int.mp r2, ⟨by omega, by omega, by omega, by omega, by omega⟩, fun l hl => q _ _ ((s1.trans s2).trans (same_upd hl)) (rep_lst ((gd.same (s1.trans s2)).otr m) hl (rep_rg i j))⟩
        · cases e2
      | _ => simp [lrgD] at e2
    | _ => simp [lrgD] at e2⟩
end
end DL

namespace DL
open PySem PySem.Spec
open PyProof.Rows hiding St
open L2
/-! ## defs with a star parameter -/
structure FnV (P : Program) (w : World) (K : PySem.W.Frag) (mg : Str → Option Value) (base : Heap) (k : Nat) (x : Str) (F : List D → Option D) : Prop where
  ex : ∃ f, FnR P w K mg base CX0 k f (spP F) ∧ mg x = some (.ref f) ∧ PySem.W.keepIn K (.ref f) = true
structure StarAt (K : PySem.W.Frag) (mg : Str → Option Value) (x : Str) (st : Stmt) (ps : List Str) (pv : Str) : Prop where
  ex : ∃ f fd, L2.Fun K x x st f fd ∧ (∀ us rest : List Value, us.length = ps.length → bindArgs fd ⟨us ++ rest, []⟩ = (newTuple rest >>= fun t => pure (ps.zip us ++ [(pv, t)]))) ∧ mg x = some (.ref f)
@[simp] def starF (n tot : Nat) (b : Rho → Option Out) : List D → Option D := fun ds => if n ≤ ds.length ∧ ds.length ≤ 100000 then runF (n + 1) tot b (ds.take n ++ [.tuple (ds.drop n)]) else none
section
variable {P : Program} {w : World} {K : PySem.W.Frag} {mg : Str → Option Value} {base : Heap}
theorem fnv_mk {x pv : Str} {st : Stmt} {f : Addr} {fd : FuncData} {N ps : List Str} {k n tot : Nat} {b : Rho → Option Out} (F : L2.Fun K x x st f fd) (S : FnScope N (ps ++ [pv]) (defScope st))
    (hbd : ∀ us rest : List Value, us.length = ps.length → bindArgs fd ⟨us ++ rest, []⟩ = (newTuple rest >>= fun t => pure (ps.zip us ++ [(pv, t)]))) (hm : mg x = some (.ref f)) (hN : N.length = tot) (hn : ps.length = n)
    (hb : ∀ (B : Base) (cdv : Value) (A : Around) (outer : List PySem.Env) (s : Shared) (H : Hp) (E : XK), Room k (A.deeper (envOfC x (defScope st) s.heap.objs.size f cdv)) → DSs (cxOf CX0 P w K mg base N x (defScope st) f cdv A outer s H E).nox B (defBody st) b) :
    FnV P w K mg base (k + 1) x (starF n tot b) := by
  have hpl : (ps ++ [pv]).length ≤ N.length := by have := congrArg List.length S.pre; rw [List.length_take] at this; omega
  rw [List.length_append, List.length_singleton] at hpl
  have kp := F.kp
  obtain ⟨oc, od, kV, doc, pm, an, cdv, ct, osl, rfl, lk, hcd⟩ := F.ex
  refine ⟨f, FnR.imp (StX.fn_star (CX := CX0) (sp := spP (runF (n + 1) tot b)) lk hcd S StX.cxUp_none hbd fun A outer s H vs Q E hr h => ?_) fun vs H Q E h => ?_, hm, kp⟩
  · obtain ⟨O, ds, d, t, r, e, q⟩ := h
    unfold runF at e
    split at e
    · next hl =>
      obtain ⟨o, e1, e2⟩ := bind_some e
      refine ⟨_, (hb ⟨H, O, fun _ => False, nolam, Str.empty⟩ cdv A outer s H E hr).ps.nox, O, startR tot ds, o, good_start t r hN (by omega), e1, ?_⟩
      cases o with
      | nx ρ' =>
        cases e2
        exact fun σ' H' O' s3 g3 => q _ H' (g3.frame.out fun _ z => z) (rep_none.mpr rfl)
      | rt z ρ' =>
        cases e2
        exact fun v σ' H' O' s3 g3 r3 => q v H' (g3.frame.out fun _ z => z) r3
    · cases e
  · obtain ⟨O, ds, d, t, r, e, q⟩ := h
    unfold starF at e
    split at e
    · next hl =>
      have hlen := r.length
      refine ⟨vs.take n, vs.drop n, (List.take_append_drop n vs).symm, by rw [List.length_take]; omega, line_le (by rw [List.length_drop]; omega), fun p hp => ?_⟩
      refine ⟨O, _, d, fun b h => (same_upd hp).ne (t b h), ?_, e, fun v H' s' r' => q v H' ((same_upd hp).trans s') r'⟩
      exact (rep_upd hp (r.take n)).append (.one (rep_tup hp (r.drop n)))
    · cases e
end
section
variable {X : Cx} {B : Base} {m : Md} {e : Expr} {es : List Expr} {gs : Rho → Option (List D)} {fs : Rho → Option (List D × Rho)} {p pos : Pos}
theorem pe_callR {CX : CXT} {k : Nat} {f : Addr} {sp : Sp} {E : XK} {x : Str} {t : TA} (F : FnR X.prog X.w X.K X.mg X.base CX k f sp) (hr : Room k X.A) (hg : Gl X x) (hm : X.mg x = some (.ref f)) (hk : PySem.W.keepIn X.K (.ref f) = true) (hx : Passes CX X E) (ha : PA X (e :: es) t) (hdb : (x == ("__debug__" : Str)) = false := by decide)
    (he : starEach (e :: es) X.env = (false, eval e X.env) :: starEach es X.env := by rfl) (hpl : (backTo pos (starEach es X.env)).any (·.1) = false := by rfl) : PE X (.Call (.Name x p) (e :: es) [] pos) (fun σ H Q => t σ H fun vs H1 => sp vs H1 Q E) := by
  refine ⟨fun pins s σ H Q I h => ?_⟩
  refine wpAny_Call_Name_kw (ld_glob I hg hm ?_ hdb)
  refine PySem.W.callWith_K (h₀ := X.base) I.ok.mod.kin hk (thn (ha.run pos pins s σ H _ I h) fun us s1 ⟨vs, H1, I1, r, q⟩ => ⟨I1.kIn, ?_⟩) he hpl
  exact wpAny_call (run_fnR F hr hx I1 r q)
theorem dp_callV {x : Str} {k j : Nat} {F : List D → Option D} (hF : FnV X.prog X.w X.K X.mg X.base k x F) (hr : Room j X.A) (hk : k ≤ j) (ha : DPA X B m (e :: es) gs) (hg : Gl X x := by rfl) (hdb : (x == ("__debug__" : Str)) = false := by decide)
    (he : starEach (e :: es) X.env = (false, eval e X.env) :: starEach es X.env := by rfl) (hpl : (backTo pos (starEach es X.env)).any (·.1) = false := by rfl) : DP X B m (.Call (.Name x p) (e :: es) [] pos) (nD gs F) := by
  obtain ⟨fa, G, hm, kp⟩ := hF.ex
  refine dp_n (t := fun t σ H Q => t σ H fun vs H1 => spP F vs H1 Q E0) (fun h => pe_callR G (hr.mono hk) hg hm kp pass0 h hdb he hpl) F (fun σ H Q O ρ ds z gd e1 e2 q => ⟨O, ρ, ds, gd, e1, fun vs H1 s1 r1 => ?_⟩) ha
  exact ⟨_, ds, z, (gd.same s1).otr m, r1, e2, fun v H2 s2 r2 => q v H2 (s1.trans s2) r2⟩
theorem de_callV {x : Str} {k j : Nat} {F : List D → Option D} (hF : FnV X.prog X.w X.K X.mg X.base k x F) (hr : Room j X.A) (hk : k ≤ j) (ha : DEA X B (e :: es) fs) (hg : Gl X x := by rfl) (hdb : (x == ("__debug__" : Str)) = false := by decide)
    (he : starEach (e :: es) X.env = (false, eval e X.env) :: starEach es X.env := by rfl) (hpl : (backTo pos (starEach es X.env)).any (·.1) = false := by rfl) : DE X B (.Call (.Name x p) (e :: es) [] pos) (nE fs F) := by
  obtain ⟨fa, G, hm, kp⟩ := hF.ex
  refine de_n (t := fun t σ H Q => t σ H fun vs H1 => spP F vs H1 Q E0) (fun h => pe_callR G (hr.mono hk) hg hm kp pass0 h hdb he hpl) F (fun σ H Q O ρ ρ' ds z gd e1 e2 q => ⟨O, ρ, ds, ρ', gd, e1, fun vs H1 s1 r1 => ?_⟩) ha
  exact ⟨_, ds, z, s1.good.otr .str, r1, e2, fun v H2 s2 r2 => q v H2 (s1.samr s2) r2⟩
end
end DL

namespace DL
open PySem PySem.Spec
open PyProof.Rows hiding St
open L2
/-! ## the set of a list of whole numbers -/
abbrev bareSet (w : World) : Obj := { cls := .type "set", dict := none, data := .set #[] 0 (.fresh 0 0 (!w.params.followText "set-order")) }
section
variable {P : Program} {w : World} {A : Around} {E : Value → Shared → Prop} {s : Shared}
theorem set_fill {l S : Addr} {items : Array Value} (ns : List Int) {h0 : Heap} {s1 : Shared} {R : Result → Shared → Prop} (hh : A.handled = none) (es : s1.heap = h0.push (bareSet w)) (eS : S = h0.objs.size) (hl : h0.IsList l items) (hit : IntsAre items.toList ns) (hb : ns.length + 1 < scanBound)
    (hR : ∀ (h' : Heap) (tk c : Nat), SetR w h' S (fun j => decide (j ∈ ns)) c → c ≤ ns.length → (∀ b o, h0.get? b = some o → h'.get? b = some o) → R (.ok (.ret .none)) { s1 with heap := h', toks := tk }) :
    codeAny (model P w) A (.builtin "set.update.loop" ⟨[.ref S, .ref (h0.objs.size + 1)], []⟩) R { s1 with heap := s1.heap.push { cls := .type "list_iterator", data := .fields #[.ref l, .int 0 0] } } := by
  subst eS
  have nn : items.size = ns.length := (Array.length_toList (xs := items)).symm.trans (IntsAre.length hit)
  obtain ⟨ob, gob, cob, kob, dob⟩ := id hl
  have ll : l < h0.objs.size := Heap.lt_size gob
  have sz1 : s1.heap.objs.size = h0.objs.size + 1 := by rw [es]; exact Heap.size_push ..
  have gS : s1.heap.get? h0.objs.size = some (bareSet w) := by rw [es]; exact Heap.get?_push_size _ rfl
  have up : ∀ b o, h0.get? b = some o → s1.heap.get? b = some o := fun b o e => by rw [es]; exact Heap.get?_push_of_some _ e
  have hl1 : s1.heap.IsList l items := ⟨ob, up _ _ gob, cob, kob, dob⟩
  have nin : h0.objs.size ∉ [h0.objs.size + 1, l] := fun z => by
    rcases List.mem_cons.mp z with e | e
    · exact Nat.ne_of_lt (Nat.lt_succ_self _) e
    · rcases List.mem_cons.mp e with e | e
      · exact Nat.lt_irrefl _ (e ▸ ll)
      · cases e
  have at_ : ∀ (i : Nat) (v : Value), items[i]? = some v → ∃ k t, ns[i]? = some k ∧ v = .int k t := fun i v e => by
    have hi : i < ns.length := nn ▸ (Array.getElem?_eq_some_iff.mp e).1
    obtain ⟨t, q⟩ := IntsAre.int_at hit i v ((Array.getElem?_toList).trans e)
    exact ⟨ns[i], t, List.getElem?_eq_getElem hi, by rw [q, List.getD_eq_getElem?_getD, List.getElem?_eq_getElem hi]; rfl⟩
  rw [← sz1]
  refine set_update_ints ((Walks.list (by simp [hh]) s1.heap.objs.size l (by rw [sz1]; exact Nat.ne_of_lt (Nat.lt_succ_of_lt ll)) items).toS) h0.objs.size (by rw [sz1]; exact nin) ns nn hb at_ items.size 0 _ (by omega) (Nat.zero_le _) ⟨⟨_, Heap.get?_push_size _ rfl, rfl, rfl⟩, hl1.push _⟩ ⟨0, Nat.le_refl 0, setR_new_at (Heap.get?_push_of_some _ gS)⟩ fun s' c mv le r => ?_
  obtain ⟨h', g, d, tk, os⟩ := s'
  obtain rfl : g = s1.gens := mv.gens
  obtain rfl : d = s1.drawn := mv.drawn
  obtain rfl : os = s1.os := mv.os
  refine hR h' tk c r (nn ▸ le) fun b o e => mv.heap b o ?_ (Heap.get?_push_of_some _ (up b o e))
  have bl := Heap.lt_size e
  rw [sz1]
  intro z
  rcases List.mem_cons.mp z with q | q
  · exact Nat.lt_irrefl _ (q ▸ bl)
  · rcases List.mem_cons.mp q with q | q
    · exact Nat.lt_irrefl _ (Nat.lt_of_succ_lt (q ▸ bl))
    · cases q
theorem call_setL {l : Addr} {items : Array Value} (ns : List Int) {Q : Value → Shared → Prop} (hh : A.handled = none) (hl : s.heap.IsList l items) (hit : IntsAre items.toList ns) (hb : ns.length + 1 < scanBound)
    (h : ∀ (h' : Heap) (tk c : Nat), SetR w h' s.heap.objs.size (fun j => decide (j ∈ ns)) c → c ≤ ns.length → (∀ b o, s.heap.get? b = some o → h'.get? b = some o) → Q (.ref s.heap.objs.size) { s with heap := h', toks := tk }) : wpAny (model P w) A (call (.type "set") [.ref l]) Q E s := by
  obtain ⟨mc, mt, mm⟩ := F.called_set.mro
  have ma := F.called_set.made; have su := F.called_set.sub
  refine wpAny_call (codeAny_of_tree (wpAny_pure (a := _) ⟨Code.quiet_builtin _ (by decide +kernel), codeAny_builtin F.entry_type_call ?_⟩))
  rw [Around.under_plain (weight_type_call_type "set" [.ref l] []) rfl]
  have n1 := F.called_set.notType; have n2 := F.called_set.canCreate; have n3 := F.typeCall_set_1 (.ref l)
  repeat (any_goals (first | assumption | wp_step))
  refine codeAny_mono (code_set_led1 (.ref l) (E := E) (Q₁ := fun x y => x = .ref s.heap.objs.size ∧ y = { s with heap := s.heap.push (bareSet w) }) ⟨rfl, rfl⟩) fun r y hr => ?_
  cases r with
  | error e => exact hr
  | ok fl =>
    cases fl with
    | brk => exact hr.elim
    | cont => exact hr.elim
    | next => exact hr.elim
    | ret obj =>
      obtain ⟨rfl, rfl⟩ := hr
      have gS : (s.heap.push (bareSet w)).get? s.heap.objs.size = some (bareSet w) := Heap.get?_push_size _ rfl
      have tS : Shared.TypeIs { s with heap := s.heap.push (bareSet w) } (.ref s.heap.objs.size) "set" := ⟨_, gS, rfl⟩
      have i1 := F.called_set.init.lookup; have i2 := F.called_set.init.bind (.ref s.heap.objs.size)
      repeat (any_goals (first | assumption | wp_step))
      refine codeAny_mono (codeAny_call_builtin (R := wants (fun r z => r = .none ∧ ∃ h' tk c, z = { s with heap := h', toks := tk } ∧ SetR w h' s.heap.objs.size (fun j => decide (j ∈ ns)) c ∧ c ≤ ns.length ∧ ∀ b o, s.heap.get? b = some o → h'.get? b = some o) E) F.called_set.init.plain F.entry_set_init (check_set_init_1 tS ?_)) fun r z hz => ?_
      · have hl0 := hl
        obtain ⟨⟨cl, dd, dt, sl⟩, go, hc, kn, hd⟩ := hl
        simp only at hc hd
        subst hc hd
        have go' : (s.heap.push (bareSet w)).get? l = some { cls := .type "list", dict := dd, data := .seq items kn, slots := sl } := Heap.get?_push_of_some _ go
        have q1 := F.sub_list_set; have q2 := F.sub_list_frozenset
        have q3 : (Value.type "list" == Value.type "dict") = false := by decide
        unfold Builtin.«set.__init__» noKeywords Builtin.Frozenset.updateFrom
        generalize hP : pyIter = PI
        wp_walk
        subst hP
        refine wpAny_pyIter_list ⟨_, go', rfl, kn, rfl⟩ (wpAny_bind (wpAny_runValue ?_))
        have e1 : (s.heap.push (bareSet w)).objs.size = s.heap.objs.size + 1 := Heap.size_push ..
        rw [e1]
        refine set_fill (s1 := { s with heap := s.heap.push (bareSet w) }) ns (by simp [hh]) rfl rfl hl0 hit hb fun h' tk c r le kp => ?_
        show wpAny _ _ _ _ _ _
        refine wpAny_pure ?_
        show wpAny _ _ (ret Value.none) _ _ _
        exact wpAny_pure ⟨rfl, h', tk, c, rfl, r, le, kp⟩
      · cases r with
        | error e => exact hz
        | ok f2 =>
          cases f2 with
          | ret r =>
            obtain ⟨rfl, h', tk, c, rfl, r, le, kp⟩ := hz
            repeat (any_goals (first | assumption | wp_step))
            exact h h' tk c r le kp
          | brk => exact hz.elim
          | cont => exact hz.elim
          | next => exact hz.elim
end
end DL

namespace DL
open PySem PySem.Spec
open PyProof.Rows hiding St
open L2
/-! ## sorted(set(xs)) -/
def insU (n : Int) : List Int → List Int
  | [] => [n]
  | m :: ms => if n < m then n :: m :: ms else if n = m then m :: ms else m :: insU n ms
def sortU : List Int → List Int
  | [] => []
  | n :: ns => insU n (sortU ns)
theorem insU_mem (n k : Int) : ∀ ms : List Int, k ∈ insU n ms ↔ k = n ∨ k ∈ ms
  | [] => by simp [insU]
  | m :: ms => by
    unfold insU
    split
    · simp
    · split
      · next h => subst h; simp
      · rw [List.mem_cons, insU_mem n k ms, List.mem_cons]
        constructor
        · rintro (h | h | h)
          · exact .inr (.inl h)
          · exact .inl h
          · exact .inr (.inr h)
        · rintro (h | h | h)
          · exact .inr (.inl h)
          · exact .inl h
          · exact .inr (.inr h)
theorem sortU_mem (k : Int) : ∀ ns : List Int, k ∈ sortU ns ↔ k ∈ ns
  | [] => by simp [sortU]
  | n :: ns => by rw [sortU, insU_mem, sortU_mem k ns, List.mem_cons]
theorem insU_lt (n : Int) : ∀ ms : List Int, ms.Pairwise (· < ·) → (insU n ms).Pairwise (· < ·)
  | [], _ => by simp [insU]
  | m :: ms, h => by
    have h' := List.pairwise_cons.mp h
    unfold insU
    split
    · next q =>
      refine List.pairwise_cons.mpr ⟨fun k hk => ?_, h⟩
      rcases List.mem_cons.mp hk with rfl | hk
      · exact q
      · have := h'.1 k hk; omega
    · split
      · exact h
      · refine List.pairwise_cons.mpr ⟨fun k hk => ?_, insU_lt n ms h'.2⟩
        rcases (insU_mem n k ms).mp hk with rfl | hk
        · omega
        · exact h'.1 k hk
theorem sortU_lt : ∀ ns : List Int, (sortU ns).Pairwise (· < ·)
  | [] => .nil
  | n :: ns => insU_lt n _ (sortU_lt ns)
theorem strict_uniq : ∀ {xs ys : List Int}, xs.Pairwise (· < ·) → ys.Pairwise (· < ·) → (∀ k, k ∈ xs ↔ k ∈ ys) → xs = ys
  | [], [], _, _, _ => rfl
  | [], y :: ys, _, _, h => absurd ((h y).mpr (by simp)) (by simp)
  | x :: xs, [], _, _, h => absurd ((h x).mp (by simp)) (by simp)
  | x :: xs, y :: ys, hx, hy, h => by
    have hx' := List.pairwise_cons.mp hx
    have hy' := List.pairwise_cons.mp hy
    have e : x = y := by
      rcases List.mem_cons.mp ((h x).mp (by simp)) with e | e
      · exact e
      · rcases List.mem_cons.mp ((h y).mpr (by simp)) with e2 | e2
        · exact e2.symm
        · have := hx'.1 y e2; have := hy'.1 x e; omega
    subst e
    congr 1
    refine strict_uniq hx'.2 hy'.2 fun k => ?_
    constructor
    · intro hk
      rcases List.mem_cons.mp ((h k).mp (by simp [hk])) with e | e
      · have := hx'.1 k hk; omega
      · exact e
    · intro hk
      rcases List.mem_cons.mp ((h k).mpr (by simp [hk])) with e | e
      · have := hy'.1 k hk; omega
      · exact e
theorem nodup_len : ∀ {xs ys : List Int}, xs.Nodup → (∀ k ∈ xs, k ∈ ys) → xs.length ≤ ys.length
  | [], _, _, _ => Nat.zero_le _
  | x :: xs, ys, hx, h => by
    have hx' := List.nodup_cons.mp hx
    have hm : x ∈ ys := h x (by simp)
    have ih := nodup_len (ys := ys.erase x) hx'.2 fun k hk => by
      have hne : k ≠ x := fun z => hx'.1 (z ▸ hk)
      exact (List.mem_erase_of_ne hne).mpr (h k (by simp [hk]))
    have hl := List.length_erase_of_mem hm
    have hp : 0 < ys.length := List.length_pos_of_mem hm
    simp only [List.length_cons]
    omega
theorem setR_len {w : World} {h : Heap} {a : Addr} {ns : List Int} {c : Nat} (R : SetR w h a (fun j => decide (j ∈ ns)) c) : c ≤ (sortU ns).length := by
  obtain ⟨o, es, ep, t, ho, hex, hd, g, nd, hm, hb, hf, hn, hr⟩ := R
  have := nodup_len (ys := sortU ns) nd fun k hk => (sortU_mem k ns).mpr (of_decide_eq_true ((hm k).mpr hk))
  rw [List.length_map, Array.length_toList] at this
  omega
@[simp] def ssetD : List D → Option D
  | [.list ds] => (intsOf ds).bind fun ns => if ns.length ≤ 1000 ∧ (sortU ns).length < 64 then some (.list (intsD (sortU ns))) else none
  | _ => none
def tSsL (K : PySem.W.Frag) (ta : TE) : TE := fun σ H Q => ta σ H fun x H1 => ∃ (l : Addr) (ns : List Int), x = .ref l ∧ SqL K H1 l (ns.map V.int) ∧ ns.length ≤ 1000 ∧ (sortU ns).length < 64 ∧ ∀ p, H1 p = none → Q (.ref p) (upd H1 p (.lst ((sortU ns).map V.int)))
section
variable {X : Cx} {B : Base} {m : Md} {a : Expr} {ta : TE} {ga : Rho → Option D} {p p2 q pos : Pos}
theorem pe_ssetL (hc : X.calm = true) (hm : X.mg "sorted" = none) (hm2 : X.mg "set" = none) (ha : PE X a ta) (hg : Gl X "sorted" := by rfl) (hg2 : Gl X "set" := by rfl) (na : starEach [a] X.env = (false, eval a X.env) :: starEach [] X.env := by rfl)
    (nl : starEach [Expr.Call (.Name "set" p2) [a] [] q] X.env = (false, eval (.Call (.Name "set" p2) [a] [] q) X.env) :: starEach [] X.env := by rfl) : PE X (.Call (.Name "sorted" p) [.Call (.Name "set" p2) [a] [] q] [] pos) (tSsL X.K ta) := by
  refine ⟨fun pins s σ H Q I h => ?_⟩
  have inner : wpAny (model X.prog X.w) X.A (eval (.Call (.Name "set" p2) [a] [] q) X.env) (fun v s1 => ∃ (S : Addr) (ns : List Int) (c : Nat) (H1 : Hp), v = .ref S ∧ Inv X pins σ H1 s1 ∧ SetR X.w s1.heap S (fun j => decide (j ∈ ns)) c ∧ (sortU ns).length < 64 ∧
      ∀ p, H1 p = none → Q (.ref p) (upd H1 p (.lst ((sortU ns).map V.int)))) X.xe s := by
    refine Call_ (ld_blt I hg2 hm2 boot_set (PyProof.Rows.callWith_type1 (one_arg ha I h (fun v s2 x H2 I2 r z => ?_) na) na))
    obtain ⟨l, ns, rfl, hs, h1, h2, z⟩ := z
    obtain ⟨its, rv, hl, hz⟩ := I2.list hs
    cases r
    refine call_setL ns (I2.ok.hd hc) hl.isList rv.ints (by unfold scanBound; omega) fun h' tk c R le kp => ?_
    exact ⟨_, ns, c, H2, rfl, I2.kept kp, R, h2, z⟩
  refine wpAny_Call_Name_kw (ld_blt I hg hm boot_sorted (PyProof.Rows.callWith_builtin1 (args_cons (thn inner fun v s1 ⟨S, ns, c, H1, ev, I1, R, h64, z⟩ => args_nil ?_) nl) nl))
  subst ev
  have hlen := setR_len R
  refine sorted_set R (I1.ok.hd hc) (by omega) fun s' p out c' ns' k g o hp hgp hi hs hmem hl => ?_
  have e : ns' = sortU ns := strict_uniq hs (sortU_lt ns) fun k => by rw [hmem k, sortU_mem]; exact decide_eq_true_iff
  subst e
  have hz : ((sortU ns).map V.int).length ≤ sizeLine := by rw [List.length_map, sizeLine_eq]; omega
  have hn : H1 p = none := I1.hok.fresh hp
  have J : Inv X pins σ (upd H1 p (.lst ((sortU ns).map V.int))) { s1 with heap := s'.heap, gens := s'.gens, drawn := s'.drawn, toks := s'.toks } :=
    I1.call (ch := []) (Un.laid k hp hn) (I1.hok.laid k hp ⟨hz, out.toList, c', vals_of_ints hi, hgp⟩) (by rw [g]; exact I1.bare) (fun _ z => nomatch z)
  have e2 : s' = { s1 with heap := s'.heap, gens := s'.gens, drawn := s'.drawn, toks := s'.toks } := by
    cases s'; cases s1; cases o; rfl
  rw [e2]
  exact ⟨.ref p, _, J, rfl, z p hn⟩
theorem dp_sset (hc : X.calm = true) (hm : X.mg "sorted" = none) (hm2 : X.mg "set" = none) (ha : DP X B m a ga) (hg : Gl X "sorted" := by rfl) (hg2 : Gl X "set" := by rfl) (na : starEach [a] X.env = (false, eval a X.env) :: starEach [] X.env := by rfl)
    (nl : starEach [Expr.Call (.Name "set" p2) [a] [] q] X.env = (false, eval (.Call (.Name "set" p2) [a] [] q) X.env) :: starEach [] X.env := by rfl) : DP X B m (.Call (.Name "sorted" p) [.Call (.Name "set" p2) [a] [] q] [] pos) (nD (consA ga nilA) ssetD) :=
  ⟨(pe_ssetL hc hm hm2 ha.pe hg hg2 na nl).imp fun σ H Q ⟨O, ρ, d, gd, e, z⟩ => by
    obtain ⟨ds, e1, e2⟩ := bind_some e
    obtain ⟨d1, e3, e4⟩ := bind_some e1
    cases e4
    refine ⟨O, ρ, d1, gd, e3, fun v H1 s1 r1 => ?_⟩
    cases d1 with
    | list ds =>
      obtain ⟨ns, e5, e6⟩ := bind_some e2
      split at e6
      · next hj =>
        cases e6
        simp only [Rep] at r1
        obtain ⟨l, vs, rfl, _, hl, r⟩ := r1
        cases ints_rep r e5
        exact ⟨l, ns, rfl, .of hl, hj.1, hj.2, fun p hp => z _ _ (s1.trans (same_upd hp)) (rep_lst ((gd.same s1).otr m) hp (rep_intsD _))⟩
      · cases e6
    | _ => cases e2⟩
end
end DL

set_option autoImplicit false
namespace DL
open PySem PySem.Spec
open PyProof.Rows hiding St
open L2
/-! ## sorted(xs): xs a list of tuples of ints, or a tuple of ints -/
def tupI (r : List Int) : D := .tuple (intsD r)
def rowsOf : List D → Option (List (List Int))
  | [] => some []
  | .tuple xs :: ds => (intsOf xs).bind fun r => (rowsOf ds).bind fun rs => some (r :: rs)
  | _ => none
theorem intsOf_eq : ∀ {ds : List D} {ns : List Int}, intsOf ds = some ns → ds = intsD ns
  | [], ns, h => by simp only [intsOf] at h; cases h; rfl
  | .int b :: ds, ns, h => by
    simp only [intsOf] at h
    obtain ⟨bs, e1, e2⟩ := bind_some h
    cases e2
    rw [intsOf_eq e1]
    rfl
  | .none :: _, _, h => by simp [intsOf] at h
  | .bool _ :: _, _, h => by simp [intsOf] at h
  | .str _ :: _, _, h => by simp [intsOf] at h
  | .list _ :: _, _, h => by simp [intsOf] at h
  | .tuple _ :: _, _, h => by simp [intsOf] at h
  | .dict _ :: _, _, h => by simp [intsOf] at h
theorem rowsOf_eq : ∀ {ds : List D} {rs : List (List Int)}, rowsOf ds = some rs → ds = rs.map tupI
  | [], rs, h => by simp only [rowsOf] at h; cases h; rfl
  | .tuple xs :: ds, rs, h => by
    simp only [rowsOf] at h
    obtain ⟨r, e1, e'⟩ := bind_some h
    obtain ⟨rs', e2, e3⟩ := bind_some e'
    cases e3
    rw [intsOf_eq e1, rowsOf_eq e2]
    rfl
  | .none :: _, _, h => by simp [rowsOf] at h
  | .bool _ :: _, _, h => by simp [rowsOf] at h
  | .str _ :: _, _, h => by simp [rowsOf] at h
  | .list _ :: _, _, h => by simp [rowsOf] at h
  | .int _ :: _, _, h => by simp [rowsOf] at h
  | .dict _ :: _, _, h => by simp [rowsOf] at h
@[simp] theorem rowsOf_rows : ∀ rs : List (List Int), rowsOf (rs.map tupI) = some rs
  | [] => rfl
  | r :: rs => by
    rw [List.map_cons]
    show ((intsOf (intsD r)).bind fun r => (rowsOf (rs.map tupI)).bind fun rs => some (r :: rs)) = _
    rw [intsOf_intsD, rowsOf_rows rs]
    rfl
@[simp] def sortTD : List D → Option D
  | [.list ds] => (rowsOf ds).bind fun rs => if (rs.all fun r => !r.isEmpty) = true ∧ rs.length ≤ 100000 then some (.list ((rs.mergeSort (PySem.W.dataLe false tupI)).map tupI)) else none
  | [.tuple ds] => (intsOf ds).bind fun ns => if ns.length ≤ 100000 then some (.list (intsD (ns.mergeSort (PySem.W.dataLe false PyData.int)))) else none
  | _ => none
def rSortT (K : PySem.W.Frag) : List V → Hp → VK → Prop := fun vs H Q =>
  (∃ (a : Addr) (xs : List V) (rs : List (List Int)) (O : Addr → Prop), vs = [V.ref a] ∧ SqL K H a xs ∧ RepL O H (rs.map tupI) xs ∧ (∀ r ∈ rs, r ≠ []) ∧ rs.length ≤ 100000 ∧
    ∀ (ys : List V) (p : Addr), H p = none → RepL O H ((rs.mergeSort (PySem.W.dataLe false tupI)).map tupI) ys → Q (.ref p) (upd H p (.lst ys))) ∨
  (∃ (a : Addr) (ns : List Int), vs = [V.ref a] ∧ SqT K H a (ns.map V.int) ∧ ns.length ≤ 100000 ∧
    ∀ (p : Addr), H p = none → Q (.ref p) (upd H p (.lst ((ns.mergeSort (PySem.W.dataLe false PyData.int)).map V.int))))
theorem each_rep {O : Addr → Prop} {H : Hp} : ∀ {rs : List (List Int)} {xs : List V} {us : List Value}, RepL O H (rs.map tupI) xs → Vals xs us → PySem.W.EachIs (fun u r => ∃ v, RelV v u ∧ Rep O H (tupI r) v) us rs
  | [], xs, us, h, r => by
    rw [List.map_nil] at h
    simp only [RepL] at h
    subst h
    cases r
    exact .nil
  | q :: rs, xs, us, h, r => by
    rw [List.map_cons] at h
    simp only [RepL] at h
    obtain ⟨v, ws, rfl, r1, r2⟩ := h
    cases r with
    | cons h t => exact .cons ⟨v, h, r1⟩ (each_rep r2 t)
theorem rep_each {O : Addr → Prop} {H : Hp} : ∀ {rs : List (List Int)} {us : List Value}, PySem.W.EachIs (fun u r => ∃ v, RelV v u ∧ Rep O H (tupI r) v) us rs → ∃ ys, Vals ys us ∧ RepL O H (rs.map tupI) ys
  | _, _, .nil => ⟨[], .nil, .nil⟩
  | _, _, .cons ⟨v, h1, h2⟩ t => by
    obtain ⟨ys, r1, r2⟩ := rep_each t
    exact ⟨v :: ys, .cons h1 r1, RepL.cons h2 r2⟩
theorem each_int : ∀ {ns : List Int} {us : List Value}, Vals (ns.map V.int) us → PySem.W.EachIs (fun u n => ∃ t, u = Value.int n t) us ns
  | [], us, r => by cases r; exact .nil
  | n :: ns, us, r => by
    cases r with
    | cons h t => exact .cons h (each_int t)
theorem int_each : ∀ {ns : List Int} {us : List Value}, PySem.W.EachIs (fun u n => ∃ t, u = Value.int n t) us ns → Vals (ns.map V.int) us
  | _, _, .nil => .nil
  | _, _, .cons h t => .cons h (int_each t)
theorem depth_tupI (r : List Int) : (tupI r).depth ≤ 1 := (shp_tup (shp_ints r)).2
section
variable {X : Cx}
theorem cr_sortT (hu : X.A.units + 64 < cLine) : CallR X (.builtin "sorted") (rSortT X.K) := by
  intro pins s σ H vs us Q I r h
  rcases h with ⟨a, xs, rs, O, rfl, hs, hr, hne, hz, q⟩ | ⟨a, ns, rfl, hs, hz, q⟩
  · obtain ⟨its, rv, hl, _⟩ := I.list hs
    rw [Vals.ref1 r]
    have e := each_rep hr rv
    have hlen : its.length = rs.length := e.length
    refine PySem.W.sorted_data (enc := tupI) hl.isList e (e.mono fun u b ⟨v, h1, h2⟩ => Dp.reads I _ _ _ (Rep.dp h2) h1) (PySem.W.AllAlike.of fun b b' => ?_) (.inl fun d hd => ?_) (line_le hz) (fun b _ => ?_) fun out ho eo => ?_
    · show PySem.W.alike (.tuple (intsD b)) (.tuple (intsD b')) = true
      rw [PySem.W.alike]
      exact PySem.W.alike_ints b b'
    · obtain ⟨b, hb, rfl⟩ := List.mem_map.mp hd
      cases b with
      | nil => exact absurd rfl (hne _ hb)
      | cons x b => exact ⟨_, _, rfl⟩
    · have := depth_tupI b; omega
    · obtain ⟨ys, r1, r2⟩ := rep_each eo
      obtain ⟨ep, he'⟩ := PyProof.Rows.sortedAll_at s.heap its out.toArray
      have hyl : ys.length ≤ sizeLine := by rw [r1.length, ho]; exact line_le hz
      exact ⟨.ref _, upd H (s.heap.objs.size + 1) (.lst ys), I.laid (t' := s.toks) (fun _ _ => PyProof.Rows.sortedAll_old) (Nat.le_succ _) ⟨hyl, out, ep, r1, he'⟩, rfl, q ys _ (I.hok.fresh (Nat.le_succ _)) r2⟩
  · obtain ⟨its, rv, ⟨o, ho, hc, n, hd⟩, _⟩ := I.tuple hs
    rw [Vals.ref1 r]
    have hlen : its.length = ns.length := by rw [← rv.length, List.length_map]
    refine PySem.Calls.call_function_entry kind_sorted plain_sorted entry_sorted (args_sorted1 _) ?_
    unfold Builtin.«sorted»
    refine wpAny_bind (m := checkCount "sorted" 1 1 _) (wpAny_pure ?_)
    refine wpAny_bind (wpAny_collect_seq a (.inr rfl) ho hc hd (fun h' hk => ?_) (by rw [List.size_toArray, hlen]; exact line_le hz))
    have ei : its.toArray.toList = its := by simp
    rw [ei]
    refine wpAny_bind (wpAny_newList ?_ (by rw [hlen]; exact line_le hz))
    have I' : Inv X pins σ H { s with heap := h', toks := s.toks } := I.kept (t' := s.toks) hk
    have e := each_int rv
    have hob : (h'.push { cls := .type "list", data := .seq its.toArray }).get? h'.objs.size = some (seqObj "list" its.toArray 0) := Heap.get?_push_size _ rfl
    refine wpAny_bind (wpAny_holding (wpAny_mono (PySem.W.list_sort_data (s := { s with heap := h'.push { cls := .type "list", data := .seq its.toArray } }) (enc := PyData.int) (Q := fun _ s' => EP X pins σ Q (.ref h'.objs.size) s') hob e (e.mono fun u b ⟨t, h1⟩ => ⟨_, h1 ▸ Reads.int b t, by simp⟩) (PySem.W.AllAlike.of fun b b' => by simp [PySem.W.alike]) (PySem.W.Sortable.others fun b => ⟨by simp, fun xs => by simp⟩) (line_le hz) (fun b _ => ?_) fun out hol eo => ?_) (fun _ s' x => ?_) fun _ _ e => e))
    · have : (PyData.int b).depth = 0 := by simp [PyData.depth]
      rw [this]
      show X.A.units + 1 + 1 + 0 < cLine
      omega
    · have r1 := int_each eo
      obtain ⟨ep, he'⟩ := PyProof.Rows.sortedHeap_at (out := out.toArray) hob
      have hyl : ((ns.mergeSort (PySem.W.dataLe false PyData.int)).map V.int).length ≤ sizeLine := by rw [List.length_map, List.length_mergeSort]; exact line_le hz
      exact ⟨.ref _, upd H h'.objs.size (.lst ((ns.mergeSort (PySem.W.dataLe false PyData.int)).map V.int)), I'.laid (t' := s.toks) (fun b u hb => by
        have hlt := Heap.lt_size hb
        rw [PyProof.Rows.sortedHeap_old (Nat.ne_of_lt hlt) (by rw [size_push']; exact Nat.lt_succ_of_lt hlt)]
        exact Heap.get?_push_of_some _ hb) (Nat.le_refl _) ⟨hyl, out, ep, r1, he'⟩, rfl, q _ (I'.hok.fresh (Nat.le_refl _))⟩
    · exact wpAny_pure ⟨_, rfl, x⟩
theorem n_sortT {K : PySem.W.Frag} : OpN (rSortT K) sortTD := by
  intro O H ds z xs Q t hf rx q
  unfold sortTD at hf
  split at hf
  · obtain ⟨rs, e1, e2⟩ := bind_some hf
    split at e2
    · next hj =>
      cases e2
      obtain ⟨v, rfl, r⟩ := repL_one rx
      simp only [Rep] at r
      obtain ⟨a, vs, rfl, _, ha, r⟩ := r
      rw [rowsOf_eq e1] at r
      refine .inl ⟨a, vs, rs, O, rfl, .of ha, r, fun r hr z => ?_, hj.2, fun ys p hn hy => q _ _ (same_upd hn) (rep_lst t hn hy)⟩
      have := List.all_eq_true.mp hj.1 r hr
      rw [z] at this
      cases this
    · cases e2
  · obtain ⟨ns, e1, e2⟩ := bind_some hf
    split at e2
    · next hj =>
      cases e2
      obtain ⟨v, rfl, r⟩ := repL_one rx
      simp only [Rep] at r
      obtain ⟨a, vs, rfl, ha, r⟩ := r
      cases ints_rep r e1
      exact .inr ⟨a, ns, rfl, .of ha, hj, fun p hn => q _ _ (same_upd hn) (rep_lst t hn (rep_intsD _))⟩
    · cases e2
  · cases hf
end
end DL

set_option autoImplicit false
namespace DL
open PySem PySem.Spec
open PyProof.Rows hiding St
open L2
/-! ## a op1 b op2 c op3 d, asked -/
def tChain3 (r r' r'' : R2) (ta tb tc td : TE) : TE := fun σ H Q => ta σ H fun x H1 => tb σ H1 fun y H2 => r x y H2 fun z H3 => ∃ k, z = .bl k ∧
  (if k = true then tc σ H3 fun w' H4 => r' y w' H4 fun z' H5 => ∃ k', z' = .bl k' ∧ (if k' = true then td σ H5 fun u H6 => r'' w' u H6 Q else Q (.bl false) H5) else Q (.bl false) H3)
@[simp] def ch3D (f1 f2 f3 : D → D → Option D) (ga gb gc gd : Rho → Option D) : Rho → Option D := fun ρ => (ga ρ).bind fun a => (gb ρ).bind fun b => (f1 a b).bind fun r => (asBool r).bind fun c => if c = true then
  (gc ρ).bind fun d => (f2 b d).bind fun r2 => (asBool r2).bind fun c2 => if c2 = true then (gd ρ).bind fun e => f3 d e else some (.bool false) else some (.bool false)
section
variable {X : Cx} {B : Base} {m : Md} {a b c d : Expr} {ta tb tc td : TE} {ga gb gc gd : Rho → Option D} {pos : Pos}
theorem pt_chain3 {op op' op'' : CmpOp} {r r' r'' : R2} (ho : OpR X (compareOp op) r) (ho' : OpR X (compareOp op') r') (ho'' : OpR X (compareOp op'') r'') (ha : PE X a ta) (hb : PE X b tb) (hc : PE X c tc) (hd : PE X d td)
    (hm : lastMarks [op, op', op''] [b, c, d] = false := by with_unfolding_all rfl) : PT X (.Compare a [op, op', op''] [b, c, d] pos) (tTest (tChain3 r r' r'' ta tb tc td)) := by
  refine ⟨fun pins s σ H Q I h => ?_⟩
  refine isTrue_chain (thn (ha.run pins s σ H _ I h) fun v s1 ⟨x, H1, I1, r1, q1⟩ => test_link (thn (hb.run pins s1 σ H1 _ I1 q1) fun u s2 ⟨y, H2, I2, r2, q2⟩ =>
    thn (ho pins s2 σ H2 x y v u _ I2 r1 r2 q2) fun d s3 ⟨z, H3, I3, r3, k, e, q3⟩ => ?_)) hm
  subst e
  cases r3
  refine wpAny_truthy_bool ?_
  cases k with
  | false =>
    obtain ⟨k', e', q'⟩ := q3
    cases e'
    exact ite_ff ⟨H3, I3, q'⟩
  | true =>
    refine ite_tt (test_link (thn (hc.run pins s3 σ H3 _ I3 q3) fun w' s4 ⟨z', H4, I4, r4, q4⟩ => thn (ho' pins s4 σ H4 y z' u w' _ I4 r2 r4 q4) fun d2 s5 ⟨z2, H5, I5, r5, k2, e2, q5⟩ => ?_))
    subst e2
    cases r5
    refine wpAny_truthy_bool ?_
    cases k2 with
    | false =>
      obtain ⟨k', e', q'⟩ := q5
      cases e'
      exact ite_ff ⟨H5, I5, q'⟩
    | true =>
      refine ite_tt (test_last (thn (hd.run pins s5 σ H5 _ I5 q5) fun w2 s6 ⟨z6, H6, I6, r6, q6⟩ => thn (ho'' pins s6 σ H6 z' z6 w' w2 _ I6 r4 r6 q6) fun c' s7 ⟨z7, H7, I7, r7, k', e7, q7⟩ => ?_))
      subst e7
      cases r7
      exact wpAny_truthy_bool ⟨H7, I7, q7⟩
theorem ch3_imp {r r' r'' : R2} {F F' F'' : D → D → Option D} (hf : Op2 r F) (hf' : Op2 r' F') (hf'' : Op2 r'' F'') {σ : St} {H : Hp} {Q : VK} (h : tP B m (ch3D F F' F'' ga gb gc gd) σ H Q) : tChain3 r r' r'' (tP B m ga) (tP B m gb) (tP B m gc) (tP B m gd) σ H Q := by
  obtain ⟨O, ρ, z, gg, e, q⟩ := h
  obtain ⟨d1, e1, e'⟩ := bind_some e
  obtain ⟨d2, e2, e3⟩ := bind_some e'
  obtain ⟨d3, e3, e4⟩ := bind_some e3
  obtain ⟨k, e5, e6⟩ := bind_some e4
  cases asBool_some e5
  refine ⟨O, ρ, d1, gg, e1, fun v H1 s1 r1 => ⟨O, ρ, d2, gg.same s1, e2, fun w H2 s2 r2 => ?_⟩⟩
  refine hf _ H2 d1 d2 _ v w _ ((gg.same (s1.trans s2)).otr m) e3 (r1.same s2) r2 fun u H3 s3 r3 => ⟨k, rep_bool.mp r3, ?_⟩
  cases k with
  | false =>
    cases e6
    exact q _ H3 ((s1.trans s2).trans s3) (rep_bool.mpr rfl)
  | true =>
    obtain ⟨d4, e7, e8⟩ := bind_some e6
    obtain ⟨d5, e9, e10⟩ := bind_some e8
    obtain ⟨k2, e11, e12⟩ := bind_some e10
    cases asBool_some e11
    have s13 := (s1.trans s2).trans s3
    refine ⟨O, ρ, d4, gg.same s13, e7, fun y H4 s4 r4 => ?_⟩
    refine hf' _ H4 d2 d4 _ w y _ ((gg.same (s13.trans s4)).otr m) e9 ((r2.same s3).same s4) r4 fun u H5 s5 r5 => ⟨k2, rep_bool.mp r5, ?_⟩
    have s15 := (s13.trans s4).trans s5
    cases k2 with
    | false =>
      cases e12
      exact q _ H5 s15 (rep_bool.mpr rfl)
    | true =>
      obtain ⟨d6, e13, e14⟩ := bind_some e12
      refine ⟨O, ρ, d6, gg.same s15, e13, fun x H6 s6 r6 => ?_⟩
      exact hf'' _ H6 d4 d6 z y x Q ((gg.same (s15.trans s6)).otr m) e14 ((r4.same s5).same s6) r6 fun u H7 s7 r7 => q u H7 ((s15.trans s6).trans s7) r7
theorem dt_chain3 {op op' op'' : CmpOp} {r r' r'' : R2} {F F' F'' : D → D → Option D} (ho : OpR X (compareOp op) r) (hf : Op2 r F) (ho' : OpR X (compareOp op') r') (hf' : Op2 r' F') (ho'' : OpR X (compareOp op'') r'') (hf'' : Op2 r'' F'') (ha : DP X B m a ga) (hb : DP X B m b gb) (hc : DP X B m c gc) (hd : DP X B m d gd)
    (h1 : lastMarks [op, op', op''] [b, c, d] = false := by with_unfolding_all rfl) : DPT X B (.Compare a [op, op', op''] [b, c, d] pos) (tstD (ch3D F F' F'' ga gb gc gd)) :=
  ⟨(pt_chain3 ho ho' ho'' ha.pe hb.pe hc.pe hd.pe h1).imp fun σ H Q ⟨O, ρ, k, gg, e, q⟩ => by
    obtain ⟨d, e0, ek⟩ := bind_some e
    cases asBool_some ek
    exact ch3_imp hf hf' hf'' ⟨O, ρ, _, gg, e0, fun v H1 s1 r1 => ⟨k, rep_bool.mp r1, q H1 s1⟩⟩⟩
end
end DL

set_option autoImplicit false
namespace DL
open PySem PySem.Spec
open PyProof.Rows hiding St
open L2
/-! ## xs.count(e), xs.remove(e), lists of whole numbers -/
@[simp] def lcountD : D → D → Option D
  | .list ds, .int k => (intsOf ds).bind fun ns => some (.int (ns.count k : Nat))
  | _, _ => none
@[simp] def remF (i : Nat) (g : Rho → Option D) : Rho → Option Out := fun ρ => (g ρ).bind fun d => (asInt d).bind fun k => (ρ[i]?).bind fun t => (ownOf t).bind fun es => (intsOf es).bind fun ns => if k ∈ ns then some (.nx (ρ.set i (reOwn t (intsD (ns.erase k))))) else none
theorem u65 {k : Nat} {A : Around} (r : Room k A) : A.units + 65 < cLine := by have := r.un; omega
section
variable {X : Cx} {B : Base} {m : Md} {a b e : Expr} {ga gb g : Rho → Option D} {pos : Pos}
theorem dp_lcount {apos cpos : Pos} (ha : DP X B m a ga) (hb : DP X B m b gb) (hst : starEach [b] X.env = [(false, eval b X.env)] := by rfl)
    (hpe : ∀ {to : TE} {t : TA}, PE X a to → PA X [b] t → PE X (.Call (.Attribute a "count" apos) [b] [] cpos) (tBM X.K "list" (rCntI X.K) to t) := by
      intro to t h1 h2; exact pe_bm PySem.F.plainAttrs_list PySem.F.slot_list_count PySem.F.type_list_count mt_lcount h1 h2) :
    DP X B m (.Call (.Attribute a "count" apos) [b] [] cpos) (b2D ga gb lcountD) := ⟨(hpe ha.pe (pa_cons hb.pe pa_nil hst)).imp fun σ H Q ⟨O, ρ, d, gd, e, q⟩ => by
  obtain ⟨d1, e1, e'⟩ := bind_some e
  obtain ⟨d2, e2, e3⟩ := bind_some e'
  refine ⟨O, ρ, d1, gd, e1, fun v H1 s1 r1 => ?_⟩
  cases d1 with
  | list ds =>
    cases d2 with
    | int k =>
      obtain ⟨ns, e5, e6⟩ := bind_some e3
      cases e6
      simp only [Rep] at r1
      obtain ⟨l, vs, rfl, nO, hl, r⟩ := r1
      cases ints_rep r e5
      refine ⟨.inl ⟨rfl, _, .of hl⟩, O, ρ, _, gd.same s1, e2, fun w H2 s2 r2 => ?_⟩
      refine ⟨l, ns, k, rfl, by rw [rep_int.mp r2], .of (s2 l _ hl), ?_⟩
      exact q _ H2 (s1.trans s2) (rep_int.mpr rfl)
    | _ => cases e3
  | _ => cases e3⟩
theorem ds_rem {i : Nat} {x : Str} {apos xpos cpos : Pos} (hN : X.N[i]? = some x) (he : DP X B .str e g) (hv : Vis X.env.scope x := by first | exact Or.inl rfl | exact Or.inr (Or.inl rfl) | exact Or.inr (Or.inr rfl)) (hd : (x == ("__debug__" : Str)) = false := by decide)
    (hcd : (x == ("__classdict__" : Str)) = false := by decide)
    (hpe : ∀ {to : TE} {t : TA}, PE X (.Name x xpos) to → PA X [e] t → PE X (.Call (.Attribute (.Name x xpos) "remove" apos) [e] [] cpos) (tBM X.K "list" rRemI to t) := by
      intro to t h1 h2; exact pe_bm PySem.F.plainAttrs_list PySem.F.slot_list_remove PySem.F.type_list_remove mt_remove h1 h2)
    (hs : swapsWith (.Call (.Attribute (.Name x xpos) "remove" apos) [e] [] cpos) none pos.line X.env = pure false := by rfl) (hst : starEach [e] X.env = [(false, eval e X.env)] := by rfl) :
    DS X B (.Expr (.Call (.Attribute (.Name x xpos) "remove" apos) [e] [] cpos) pos) (remF i g) := ⟨(ps_expr (hpe (pv i hN hv hd hcd) (pa_cons he.pe pa_nil hst)) hs).imp fun E σ H ⟨O, ρ, r, gd, e, q⟩ => by
  obtain ⟨d, e1, e2⟩ := bind_some e
  obtain ⟨k, ek, e2'⟩ := bind_some e2
  obtain ⟨t, e3, e4⟩ := bind_some e2'
  obtain ⟨es, e5, e6⟩ := bind_some e4
  obtain ⟨ns, e7, e8⟩ := bind_some e6
  have ed : d = .int k := by
    unfold asInt at ek
    split at ek
    · cases ek; rfl
    · cases ek
  subst ed
  split at e8
  · next hk =>
    cases e8
    obtain ⟨a, vs, h1, h2, h3, h4⟩ := gd.ownAt e3 e5
    cases ints_rep h4 e7
    obtain ⟨j, j1, j2, j3, j4⟩ := first_at hk
    refine ⟨_, h1, .inl ⟨rfl, _, .of h3⟩, O, ρ, _, gd, e1, fun v H1 s1 r1 => ?_⟩
    refine ⟨a, ns, k, j, rfl, by rw [rep_int.mp r1], s1 a _ h3, j2, j3, ?_⟩
    rw [j4]
    have g1 := gd.same s1
    have x := g1.put (H' := upd H1 a (.lst ((ns.erase k).map V.int))) e3 e5 h1 (.of (.lst (s1 a _ h3)) fun b o hb e => by rw [upd_ne hb]; exact e) upd_same (rep_intsD _)
    exact q σ _ O (.ext ((Ext.of gd s1).trans x)) x.good
  · cases e8⟩
/-- list(e) for a name of its own -/
@[simp] def ownL : D → Option D
  | .list ds => if immL ds = true then some (.list ds) else none
  | .tuple ds => if immL ds = true then some (.list ds) else none
  | _ => none
theorem df_list {p : Pos} (hm : X.mg "list" = none) (ha : DP X B .str a ga) (hg : Gl X "list" := by rfl) (he : starEach [a] X.env = (false, eval a X.env) :: starEach [] X.env := by rfl) : DF X B (.Call (.Name "list" p) [a] [] pos) (b1D ga ownL) :=
  ⟨(pe_callTy call_list_of hg hm boot_list (pa_cons ha.pe pa_nil he) (by decide) (by decide) he rfl).imp fun σ H Q ⟨O, ρ, ds, gd, e, q⟩ => by
    obtain ⟨d, e1, e2⟩ := bind_some e
    refine ⟨O, ρ, d, gd, e1, fun v H1 s1 r1 => ?_⟩
    have fin : ∀ (l : Addr) (vs : List V) (es : List D), immL es = true → RepL (Md.O .str B O) H1 es vs → H1 l = none → ds = es → Q (.ref l) (upd H1 l (.lst vs)) := fun l vs es hi r hl hd => by
      subst hd
      have hn : H l = none := s1.free hl
      exact q l vs _ (s1.trans (same_upd hl)) hn upd_same (RepL.same (same_upd hl) (r.imm hi))
    cases d with
    | list es =>
      simp only [ownL] at e2
      split at e2
      · next hi =>
        cases e2
        simp only [Rep] at r1
        obtain ⟨a, vs, rfl, _, ha, r⟩ := r1
        exact ⟨a, vs, rfl, .inl (.of ha), fun l hl => fin l vs _ hi r hl rfl⟩
      · cases e2
    | tuple es =>
      simp only [ownL] at e2
      split at e2
      · next hi =>
        cases e2
        simp only [Rep] at r1
        obtain ⟨a, vs, rfl, ha, r⟩ := r1
        exact ⟨a, vs, rfl, .inr (.of ha), fun l hl => fin l vs _ hi r hl rfl⟩
      · cases e2
    | _ => cases e2⟩
end
end DL

set_option maxHeartbeats 2000000
/-! data in hot contexts; a def that tells the class of the error which is handled -/
namespace DL
open PySem PySem.Spec
open PyProof.Rows hiding St
open L2 HotX
open L2H hiding St
theorem PIG.imp {C : Cx → Prop} {X : Cx} {tg iter : Expr} {wi wi' : TI} (h : PIG C X tg iter wi) (i : ∀ σ H R, wi' σ H R → wi σ H R) : PIG C X tg iter wi' := ⟨fun pins s σ H R I q => h.run pins s σ H R I (i σ H R q)⟩
structure DIG (C : Cx → Prop) (X : Cx) (B : Base) (tg e : Expr) (gs : Rho → Option (List D)) : Prop where
  pig : PIG C X tg e (tItC B gs)
@[simp] def zip2L : D → D → Option (List D)
  | .list ds, .list es => some (zipL ds es)
  | _, _ => none
@[simp] def zipLI (ga gb : Rho → Option D) : Rho → Option (List D) := fun ρ => (ga ρ).bind fun d => (gb ρ).bind fun e => zip2L d e
section
variable {X : Cx} {B : Base} {m : Md} {tg iter elt e e2 : Expr} {ifs : List Expr} {scope : Scope} {own : List (Str × Nat)} {is : List Nat} {pos p tpos : Pos} {gs : Rho → Option (List D)} {b : D → Rho → Option Rho} {t : Rho → Option Bool} {g g2 : Rho → Option D} {elts : List Expr} {kk : Nat} {pp : Addr × Obj}
theorem DIG.of (h : DIC X B tg e gs) : DIG Calm X B tg e gs := ⟨.of h.pi⟩
theorem dig_zipH (hm : X.mg "zip" = none) (h : DP X B .str e g) (h2 : DP X B .str e2 g2) (hg : Gl X "zip" := by rfl) (hs : starEach [e, e2] X.env = (false, eval e X.env) :: starEach [e2] X.env := by rfl) (hs2 : starEach [e2] X.env = (false, eval e2 X.env) :: starEach [] X.env := by rfl) (hpl : (backTo pos (starEach [e2] X.env)).any (·.1) = false := by rfl) :
    DIG (HotP pp) X B (.Tuple elts kk tpos) (.Call (.Name "zip" p) [e, e2] [] pos) (zipLI g g2) :=
  ⟨(pi_zipH hg hm (pa_cons h.pe (pa_cons h2.pe pa_nil hs2) hs) hs hpl).imp fun σ H R ⟨O, ρ, ds, gd, e, q⟩ => by
    obtain ⟨d1, e1, e'⟩ := bind_some e
    obtain ⟨d2, e2, e3⟩ := bind_some e'
    refine ⟨O, ρ, d1, gd, e1, fun v H1 s1 r1 => ⟨O, ρ, d2, gd.same s1, e2, fun w H2 s2 r2 => ?_⟩⟩
    have r1 := r1.same s2
    unfold zip2L at e3
    split at e3
    · cases e3
      simp only [Rep] at r1 r2
      obtain ⟨a, vs, rfl, no, ha, r1⟩ := r1
      obtain ⟨b, ws, rfl, no2, hb, r2⟩ := r2
      refine ⟨a, b, vs, ws, rfl, .of ha, .of hb, q _ H2 (s1.trans s2) (Src.toC ?_)⟩
      refine src_zip (S1 := fun H xs => H a = some (.lst xs)) (S2 := fun H xs => H b = some (.lst xs)) (G1 := fun O H => ¬ O a ∧ H a = some (.lst vs) ∧ RepL O H _ vs) (G2 := fun O H => ¬ O b ∧ H b = some (.lst ws) ∧ RepL O H _ ws) ⟨no, ha, r1⟩ ⟨no2, hb, r2⟩
        (fun O H O' H' m ⟨h1, h2, h3⟩ => ⟨fun z => (m.out a z).elim h1 (fun q => by rw [h2] at q; cases q), m.keep a _ h2 (.inr h1), RepL.mv m _ _ h3⟩)
        (fun O H O' H' m ⟨h1, h2, h3⟩ => ⟨fun z => (m.out b z).elim h1 (fun q => by rw [h2] at q; cases q), m.keep b _ h2 (.inr h1), RepL.mv m _ _ h3⟩)
        (fun O H h => h.2) (fun O H h => h.2) (fun i H x y h1 h2 e1 e2 => ⟨vs, ws, x, y, .of h1, .of h2, e1, e2⟩) (fun i H h1 h2 h => ⟨vs, ws, .of h1, .of h2, h⟩) fun i H v H' h1 h2 y => ?_
      obtain ⟨T, x, y, h3, h4, h5, h6, h7⟩ := y
      exact ⟨T, x, y, h3, h4, h5, h6 vs (.of h1), h7 ws (.of h2)⟩
    · cases e3⟩
theorem dg_tupH {n : Nat} {k : Nat} {es : List Expr} {bs : List D → Rho → Option Rho} (hc : HotP pp X) (h : DGs X B es is bs) (hn : (assignEach es X.env).length = n := by rfl) (hst : (assignEach es X.env).findIdx? (·.1) = none := by rfl) : DG X B (.Tuple es k pos) is (bTup n bs) :=
  ⟨(pg_tupH hc h.pgs hn hst).imp fun v σ H Q ⟨O, ρ, d, ρ', gd, r, e, q⟩ => by
    unfold bTup at e
    split at e
    · next ds =>
      split at e
      · next hl =>
        simp only [Rep] at r
        obtain ⟨a, vs, rfl, ha, r⟩ := r
        exact ⟨a, vs, rfl, .of ha, by rw [← r.length]; exact hl, O, ρ, ds, ρ', gd, r, e, q⟩
      · cases e
    · cases e⟩
theorem dp_lcG {C : Cx → Prop} {pn : List (Addr × Obj)} (hpn : ∀ q ∈ pn, q ∈ X.pn) (hC : ∀ (s : Shared) (H : Hp) (cenv : Env) (fp : List Addr), C (blkG X s H scope cenv fp pn)) (hN : X.N.Nodup) (hi : DIG C X B tg iter gs) (ok : BlkOk X.N X.env.scope scope own) (his : ∀ i ∈ is, i ∈ own.map (·.2))
    (hg : ∀ (s : Shared) (H : Hp) (A : Addr) (cl : List (Str × Addr)) (fp : List Addr), DG (blkG X s H scope (compEnvC scope cl A X.env) fp pn) B tg is b)
    (ht : ∀ (s : Shared) (H : Hp) (A : Addr) (cl : List (Str × Addr)) (fp : List Addr), (∃ pins σ, L2.Inv X pins σ H s ∧ ∀ b ∈ fp, FpOk X pins H b) → DTs (blkG X s H scope (compEnvC scope cl A X.env) fp pn) B ifs t)
    (he : ∀ (s : Shared) (H : Hp) (A : Addr) (cl : List (Str × Addr)) (fp : List Addr), (∃ pins σ, L2.Inv X pins σ H s ∧ ∀ b ∈ fp, FpOk X pins H b) → DP (blkG X s H scope (compEnvC scope cl A X.env) fp pn) B .str elt g) (hs : ∀ x, foldedSetIterable iter X.env x = pure x := by intro _; rfl) :
    DP X B m (.ListComp elt [⟨tg, iter, ifs, 0⟩] scope pos) (lcD gs (own.map (·.2)) b t g) :=
  ⟨(pe_lcG hpn hC hN hi.pig ok (fun s H C cl fp => (hg s H C cl fp).pg) (fun s H C cl fp l => (ht s H C cl fp l).pts) (fun s H C cl fp l => (he s H C cl fp l).pe) hs).imp fun σ H Q ⟨O, ρ, d, gd, e, q⟩ => by
    obtain ⟨es, rfl⟩ := lc_list e
    refine lc_imp his ⟨O, ρ, es, gd, e, fun a us H' s ha ha' r => q _ H' s ?_⟩
    obtain ⟨n1, n2, n3⟩ := gd.fresh ha
    exact rep_fresh (fun z => n1 (gd.mO m a z)) (fun c z => .inl (gd.mO m c z)) ha' r⟩
/-! ### isinstance of the error -/
theorem call_isP {D : Addr} (C : ExcC X.K D) (hp : pp ∈ X.pn) (hz : Zc (.ref D) none pp.2) (hf : ∃ vs, pp.2.data = .fields vs) : CallR X (.builtin "isinstance") (rIsE X.K D pp.1) := by
  intro pins s σ H xs us Q I r ⟨c, cv, b, ex, hcv, e, q⟩
  subst ex
  cases r with
  | cons rx rr =>
    cases rr with
    | cons rt rr =>
      cases rr
      cases rx
      have ec := hcv _ rt
      subst ec
      have hget := (I.pin pp (List.mem_append_left _ hp)).1
      obtain ⟨vs, hv⟩ := hf
      have J : PySem.W.InstAt s.heap pp.1 pp.2 D none := by
        obtain ⟨pa, oc, od, oda, osl⟩ := pp
        obtain ⟨h1, h2⟩ := hz
        dsimp only at h1 h2 hv hget
        subst h1 h2 hv
        exact ⟨hget, rfl, rfl, trivial⟩
      exact PySem.W.kia_one (PySem.W.handS_kitx_exc C.hg C.hk C.hs C.hd C.ha C.hn C.ht C.hm) I.kIn J e (fun z => nomatch z) fun tk => ⟨.bl b, H, I.kept (t' := tk) fun _ _ z => z, rfl, q⟩
@[simp] def isED (i : Nat) (a : Addr) (b : Bool) : Rho → Option D := fun ρ => match ρ[i]? with
  | some (.raw (.ref a')) => if a' = a then some (.bool b) else none
  | _ => none
theorem dp_isE {D C : Addr} {bb : Bool} {x y : Str} {p2 p3 : Pos} (i : Nat) (hE : ExcC X.K D) (hp : pp ∈ X.pn) (hz : Zc (.ref D) none pp.2) (hf : ∃ vs, pp.2.data = .fields vs) (hm : X.mg "isinstance" = none) (hC : X.mg y = some (.ref C)) (hk : PySem.W.kitOne X.K (.ref D) (.ref C) = some bb)
    (hN : X.N[i]? = some x := by rfl) (hv : Vis X.env.scope x := by first | exact Or.inl rfl | exact Or.inr (Or.inl rfl) | exact Or.inr (Or.inr rfl)) (hg : Gl X "isinstance" := by rfl) (hgC : Gl X y := by rfl) (hdx : (x == ("__debug__" : Str)) = false := by decide) (hcx : (x == ("__classdict__" : Str)) = false := by decide) (hdy : (y == ("__debug__" : Str)) = false := by decide)
    (hs : starEach [.Name x p2, .Name y p3] X.env = (false, eval (.Name x p2) X.env) :: starEach [.Name y p3] X.env := by rfl) (hpl : (backTo pos (starEach [.Name y p3] X.env)).any (·.1) = false := by rfl) :
    DP X B m (.Call (.Name "isinstance" p) [.Name x p2, .Name y p3] [] pos) (isED i pp.1 bb) :=
  ⟨(pe_callB (call_isP hE hp hz hf) hg hm boot_isinstance (pa_cons (pv i hN hv hdx hcx) (pa_cons (pe_glob (v := .ref C) hgC hC rfl hdy) pa_nil) hs) (by decide) (by decide) hs hpl).imp fun σ H Q ⟨O, ρ, d, gd, e, q⟩ => by
    unfold isED at e
    split at e
    · next a' e1 =>
      split at e
      · next ea =>
        subst ea
        cases e
        have k := gd.slots _ _ e1
        exact ⟨_, k, .ref C, .ref C, bb, rfl, fun u r => r, hk, q _ H (Same.refl H) (rep_bool.mpr rfl)⟩
      · cases e
    · cases e⟩
/-! ### join -/
@[simp] def strsOf : List D → Option (List Str)
  | [] => some []
  | .str x :: ds => (strsOf ds).bind fun xs => some (x :: xs)
  | _ :: _ => none
def joinS (sep : Str) (ys : List Str) : Option D := if (ys.map (·.length)).sum + ys.length * sep.length ≤ 16777216 then some (.str (Txt.join sep ys)) else none
@[simp] def joinD (sep : Str) : D → Option D
  | .list ds => (strsOf ds).bind (joinS sep)
  | _ => none
theorem rep_strs {O : Addr → Prop} {H : Hp} : ∀ {ds : List D} {xs : List Str} {vs : List V}, strsOf ds = some xs → RepL O H ds vs → vs = xs.map V.str
  | [], xs, vs, e, r => by
    cases e
    simp only [RepL] at r
    rw [r]
    rfl
  | .str x :: ds, xs, vs, e, r => by
    obtain ⟨ys, e1, e2⟩ := bind_some (show (strsOf ds).bind _ = some xs from e)
    cases e2
    simp only [RepL, Rep] at r
    obtain ⟨v, ws, rfl, rfl, r⟩ := r
    rw [rep_strs e1 r]
    rfl
  | .none :: ds, _, _, e, _ => by cases e
  | .bool _ :: ds, _, _, e, _ => by cases e
  | .int _ :: ds, _, _, e, _ => by cases e
  | .list _ :: ds, _, _, e, _ => by cases e
  | .tuple _ :: ds, _, _, e, _ => by cases e
  | .dict _ :: ds, _, _, e, _ => by cases e
theorem dp_join {sep : Str} {j p2 : Pos} {jj} {apos : Pos} (h : DP X B m e g) (hbase : attributeBase (.Constant (.str sep) jj p2) "join" X.env (eval (.Constant (.str sep) jj p2) X.env) = eval (.Constant (.str sep) jj p2) X.env := by rfl) (hs : starEach [e] X.env = (false, eval e X.env) :: starEach [] X.env := by rfl) (hline : (apos.endLine == pos.line) = true := by rfl) :
    DP X B m (.Call (.Attribute (.Constant (.str sep) jj p2) "join" apos) [e] [] pos) (b1D g (joinD sep)) :=
  ⟨(pe_join (ho := pe_str) h.pe hs hbase hline).imp fun σ H Q ⟨O, ρ, d, gd, e, q⟩ => by
    obtain ⟨d1, e1, e2⟩ := bind_some e
    unfold joinD at e2
    split at e2
    · obtain ⟨ys, e3, e4⟩ := bind_some e2
      unfold joinS at e4
      split at e4
      · next hz =>
        cases e4
        refine ⟨⟨_, rfl⟩, O, ρ, _, gd, e1, fun v H1 s1 r1 => ?_⟩
        simp only [Rep] at r1
        obtain ⟨a, vs, rfl, no, ha, r⟩ := r1
        rw [rep_strs e3 r] at ha
        exact ⟨sep, a, ys, rfl, rfl, .inl (.of ha), hz, q _ H1 s1 (by simp only [Rep])⟩
      · cases e4
    · cases e2⟩
end
/-! ### the def that tells an error's name -/
structure ErrFn (P : Program) (w : World) (K : PySem.W.Frag) (mg : Str → Option Value) (base : Heap) (k : Nat) (x : Str) (D : Addr) (nm : Str) : Prop where
  ex : ∃ f fd y, (∀ (A : Around) (outer : List Env) (s : Shared) (H : Hp) (args : Args) (Q : VK) (E : XK) (p : Addr × Obj), RoomH k A → Hot1 A p → PinOk outer H s p → Zc (.ref D) none p.2 → Env0 P w K mg base A outer s H → BindsTo s fd args ([y].zip [.ref p.1]) → (∀ H', Same H H' → Q (.str nm) H') →
    codeAny (model P w) A (.call (.ref f) args) (CR CX0 outer P w H s Q E) s) ∧ mg x = some (.ref f) ∧ PySem.W.keepIn K (.ref f) = true ∧ Binds K fd [y] []
theorem errfn_mk {P : Program} {w : World} {K : PySem.W.Frag} {mg : Str → Option Value} {base : Heap} {x y nm : Str} {st : Stmt} {f : Addr} {fd : FuncData} {N : List Str} {k tot : Nat} {D : Addr} {b : Addr → Rho → Option Out} (F : L2.Fun K x x st f fd) (S : FnScope N [y] (defScope st)) (bi : Binds K fd [y] []) (hm : mg x = some (.ref f)) (hN : N.length = tot)
    (hb : ∀ (B : Base) (cdv : Value) (A : Around) (outer : List PySem.Env) (s : Shared) (H : Hp) (E : XK) (p : Addr × Obj), Hot1 A p → Zc (.ref D) none p.2 → DSs (cxH CX0 P w K mg base N x (defScope st) f cdv A outer s H E p) B (defBody st) (b p.1))
    (he : ∀ a : Addr, ∃ ρ', b a (.raw (.ref a) :: List.replicate (tot - 1) .nil) = some (.rt (.str nm) ρ')) : ErrFn P w K mg base (k + 1) x D nm := by
  have hpl : 1 ≤ N.length := by have := congrArg List.length S.pre; rw [List.length_take] at this; simp at this; omega
  refine ⟨f, fd, y, fun A outer s H args Q E p hr hot hpin hz e0 hbt q => ?_, hm, F.kp, bi⟩
  obtain ⟨oc, od, kV, doc, pm, an, cdv, ct, osl, rfl, lk, hcd⟩ := F.ex
  have KX : K.In s.heap := e0.mod.kin.keeps fun b o e => (e0.bs b o e).1
  have lim : s.heap.NoLimit := e0.mod.nolimit.keeps fun b o e => (e0.bs b o e).1
  have hkind : ∀ z ∈ [y].zip [Value.ref p.1], (defScope st).names.lookup z.1 = some .local ∨ ((defScope st).names.lookup z.1 = some .cell ∧ ((cellsFrom (s.heap.objs.size + 1) (defScope st).names []).lookup z.1).isSome = true) := fun ⟨n, v⟩ hy =>
    (S.par n (List.of_mem_zip hy).1).imp id fun q => ⟨q, PySem.W.cellsFrom_some _ _ _ (.inl q)⟩
  refine codeAny_call_function hr.depth (KX _ _ lk) rfl S.co S.gen rfl (PySem.W.codeRec_of KX hcd) (hbt _ _ _ _ ?_)
  refine wpAny_newFunctionEnv_cells S.kind hkind fun env he' s1 z => ?_
  subst he'
  refine ⟨lim.keeps z.toInCall.keep, codeAny_func ?_⟩
  have I := inv_startH (CX := CX0) (w := w) (E := E) (vs := [.ref p.1]) (us := [.ref p.1]) S hpin e0 rfl (.cons rfl .nil) z
  obtain ⟨ρ', er⟩ := he p.1
  have gd : Good ⟨H, fun _ => False, fun _ => False, nolam, Str.empty⟩ (fun _ => False) (L2.start N [.ref p.1]) H (.raw (.ref p.1) :: List.replicate (tot - 1) .nil) := by
    have eN : L2.start N [V.ref p.1] = some (.ref p.1) :: List.replicate (tot - 1) none := by unfold L2.start; simp [hN]
    rw [eN]
    exact good_law H p.1 (tot - 1)
  have run := (hb ⟨H, fun _ => False, fun _ => False, nolam, Str.empty⟩ cdv A outer s H E p hot hz).ps.run [] s1 _ H { nx := fun _ H' => Q .non H', rt := Q } I ⟨fun _ => False, _, _, gd, er, fun v σ' H' O' s3 g3 r3 => by
    rw [show v = .str nm by simpa only [Rep] using r3]
    exact q H' (g3.frame.out fun _ z => z)⟩
  refine wpAny_mono run (fun fl s' hs => ?_) fun e s' hs => hs
  cases fl with
  | ret u =>
    obtain ⟨v, σ', H', J, rv, q⟩ := hs
    exact ⟨v, H', J.os, J.bare, J.base, J.hok, rv, q⟩
  | next =>
    obtain ⟨σ', H', J, q⟩ := hs
    exact ⟨V.non, H', J.os, J.bare, J.base, J.hok, rfl, q⟩
  | brk =>
    obtain ⟨_, _, _, q⟩ := hs
    exact False.elim q
  | cont =>
    obtain ⟨_, _, _, q⟩ := hs
    exact False.elim q
end DL

set_option maxHeartbeats 2000000
/-! defs that may raise an error of the package -/
namespace DL
open PySem PySem.Spec
open PyProof.Rows hiding St
open L2
inductive Res where
  | ok (d : D) | er (C : Str)
inductive OutX where
  | ok (o : Out) | er (C : Str)
def RX (mg : Str → Option Value) (O : Addr → Prop) (H : Hp) (Q : VK) (E : XK) : Res → Prop
  | .ok d => ∀ v H', Same H H' → Rep O H' d v → Q v H'
  | .er C => ∀ a H', mg C = some (.ref a) → Same H H' → E (.ref a) none H'
def spX (mg : Str → Option Value) (F : List D → Option Res) : Sp := fun vs H Q E => ∃ O ds r, Otr O H ∧ RepL O H ds vs ∧ F ds = some r ∧ RX mg O H Q E r
structure FnX (P : Program) (w : World) (K : PySem.W.Frag) (mg : Str → Option Value) (base : Heap) (k : Nat) (x : Str) (F : List D → Option Res) : Prop where
  ex : ∃ f fd ps, FnOk P w K mg base (L2N.CX P w) k f fd ps (spX mg F) ∧ mg x = some (.ref f) ∧ PySem.W.keepIn K (.ref f) = true ∧ Binds K fd ps []
structure FnXV (P : Program) (w : World) (K : PySem.W.Frag) (mg : Str → Option Value) (base : Heap) (k : Nat) (x : Str) (F : List D → Option Res) : Prop where
  ex : ∃ f, FnR P w K mg base (L2N.CX P w) k f (spX mg F) ∧ mg x = some (.ref f) ∧ PySem.W.keepIn K (.ref f) = true
def tXE (mg : Str → Option Value) (B : Base) (W : WX) (g : Rho → Option Res) : TE := fun σ H Q => ∃ O ρ r, Good B O σ H ρ ∧ g ρ = some r ∧ RX mg O H Q (fun cls d H' => W cls d σ H') r
structure DXE (X : Cx) (B : Base) (W : WX) (e : Expr) (g : Rho → Option Res) : Prop where
  pe : PE X e (tXE X.mg B W g)
def EndX (mg : Str → Option Value) (B : Base) (O : Addr → Prop) (σ : St) (H : Hp) (ρ : Rho) (E : Ends) (W : WX) : OutX → Prop
  | .ok o => EndS B O σ H ρ E o
  | .er C => ∀ a σ' H', mg C = some (.ref a) → FrB B H' → W (.ref a) none σ' H'
def tSX (mg : Str → Option Value) (B : Base) (W : WX) (F : Rho → Option OutX) : TS := fun E σ H => ∃ O ρ r, Good B O σ H ρ ∧ F ρ = some r ∧ EndX mg B O σ H ρ E W r
structure DSX (X : Cx) (B : Base) (W : WX) (st : Stmt) (F : Rho → Option OutX) : Prop where
  ps : PS X st (tSX X.mg B W F)
structure DSsX (X : Cx) (B : Base) (W : WX) (st : List Stmt) (F : Rho → Option OutX) : Prop where
  ps : PSs X st (tSX X.mg B W F)
@[simp] def nX (gs : Rho → Option (List D)) (F : List D → Option Res) : Rho → Option Res := fun ρ => (gs ρ).bind F
@[simp] def bX (g : Rho → Option Res) (F : List D → Option D) : Rho → Option Res := fun ρ => (g ρ).bind fun r => match r with
  | .ok d => (F [d]).bind fun z => some (.ok z)
  | .er C => some (.er C)
@[simp] def pX (g : Rho → Option D) : Rho → Option Res := fun ρ => (g ρ).bind fun d => some (.ok d)
@[simp] def okF (F : Rho → Option Out) : Rho → Option OutX := fun ρ => (F ρ).bind fun o => some (.ok o)
@[simp] def seqX (F G : Rho → Option OutX) : Rho → Option OutX := fun ρ => (F ρ).bind fun r => match r with
  | .ok (.nx ρ1) => G ρ1
  | .ok (.rt d ρ1) => some (.ok (.rt d ρ1))
  | .er C => some (.er C)
@[simp] def dropX (g : Rho → Option Res) : Rho → Option OutX := fun ρ => (g ρ).bind fun r => match r with
  | .ok _ => some (.ok (.nx ρ))
  | .er C => some (.er C)
@[simp] def retX (g : Rho → Option Res) : Rho → Option OutX := fun ρ => (g ρ).bind fun r => match r with
  | .ok d => some (.ok (.rt d ρ))
  | .er C => some (.er C)
@[simp] def setX (i : Nat) (g : Rho → Option Res) : Rho → Option OutX := fun ρ => (g ρ).bind fun r => match r with
  | .ok d => some (.ok (.nx (ρ.set i (.dat d))))
  | .er C => some (.er C)
@[simp] def iteX (c : Rho → Option (Bool × Rho)) (F G : Rho → Option OutX) : Rho → Option OutX := fun ρ => (c ρ).bind fun p => if p.1 = true then F p.2 else G p.2
@[simp] def raiX (C : Str) : Rho → Option OutX := fun _ => some (.er C)
theorem _root_.L2.PS.nox {X : Cx} {st : Stmt} {t : TS} (h : PS X.nox st t) : PS X st t := ⟨fun pins s σ H D I hw =>
  wpAny_mono (h.run pins s σ H D (I.wish _) hw) (fun _ _ q => q.unwish) fun _ _ z => False.elim z⟩
theorem cxUpN {P : Program} {w : World} : StX.CXUp (L2N.CX P w) := by
  rintro outer s H s2 H2 E e s' un kp ho ⟨a, B, H', cls, d, ea, fl, hok, ub, na, os, ag, he⟩
  refine ⟨a, B, H', cls, d, ea, fl, hok, ⟨fun b o q n hb => ub.keep b o (kp b o q) (un.free b o q n (by simp)) hb, fun b o q hb => ub.slot b o (kp b o q) hb, fun b o q n => ub.free b o (kp b o q) (un.free b o q n (by simp)),
    fun b o q hb => ub.there b o (kp b o q) hb, fun b xs q => ub.tups b xs (un.tups b xs q), fun b o xs q => ub.frzs b o xs (un.frzs b o xs q), fun b ps q => ?_⟩, na, os.trans ho, ag, he⟩
  obtain ⟨m1, e1⟩ := un.tbls b ps q
  obtain ⟨m2, e2⟩ := ub.tbls b _ e1
  exact ⟨m1 ++ m2, by rw [e2, Array.append_assoc]⟩
section
variable {X : Cx} {B : Base} {W : WX} {m : Md} {e : Expr} {es : List Expr} {st : Stmt} {sts tts : List Stmt} {F G : Rho → Option OutX} {g : Rho → Option Res} {gs : Rho → Option (List D)} {c : Rho → Option (Bool × Rho)} {pos p p' : Pos}
theorem EndX.after {O O1 : Addr → Prop} {σ σ1 : St} {H H1 : Hp} {ρ ρ1 : Rho} {E : Ends} {r : OutX} {mg : Str → Option Value} (g : Good B O σ H ρ) (a : Stp O σ H ρ O1 σ1 H1 ρ1) (q : EndX mg B O σ H ρ E W r) : EndX mg B O1 σ1 H1 ρ1 E W r := by
  cases r with
  | ok o => exact EndS.after g a q
  | er C => exact q
/-! ### expressions -/
theorem dx_of {gp : Rho → Option D} (h : DP X B .str e gp) : DXE X B W e (pX gp) := ⟨h.pe.imp fun σ H Q ⟨O, ρ, r, gd, e, q⟩ => by
  obtain ⟨d, e1, e2⟩ := bind_some e
  cases e2
  exact ⟨O, ρ, d, gd, e1, q⟩⟩
theorem dx_call {x : Str} {k j : Nat} {Fx : List D → Option Res} (hF : FnX X.prog X.w X.K X.mg X.base k x Fx) (tk : L2N.Takes X W) (hr : Room j X.A) (hk : k ≤ j) (ha : DPA X B .str (e :: es) gs) (hg : Gl X x := by rfl) (hdb : (x == ("__debug__" : Str)) = false := by decide)
    (he : starEach (e :: es) X.env = (false, eval e X.env) :: starEach es X.env := by rfl) (hpl : (backTo pos (starEach es X.env)).any (·.1) = false := by rfl) : DXE X B W (.Call (.Name x p) (e :: es) [] pos) (nX gs Fx) := by
  obtain ⟨fa, fd, ps, G, hm, kp, b⟩ := hF.ex
  refine ⟨(pe_callS G (hr.mono hk) hg hm kp b (fun σ => L2N.passAt tk σ) ha.pa hdb he hpl).imp fun σ H Q ⟨O, ρ, r, gd, e, q⟩ => ?_⟩
  obtain ⟨ds, e1, e2⟩ := bind_some e
  refine ⟨O, ρ, ds, gd, e1, fun vs H1 s1 r1 => ⟨O, ds, r, (gd.same s1).otrk, r1, e2, ?_⟩⟩
  cases r with
  | ok d => exact fun v H2 s2 r2 => q v H2 (s1.trans s2) r2
  | er C => exact fun a H2 hC s2 => q a H2 hC (s1.trans s2)
theorem run_fnRS {CX : CXT} {k : Nat} {f : Addr} {sp : Sp} {E : XK} {pins : List (Addr × Obj)} {σ : St} {H : Hp} {s : Shared} {Q : VK} {us : List Value} {vs : List V} (F : FnR X.prog X.w X.K X.mg X.base CX k f sp) (hr : Room k X.A) (hx : PassesAt CX X σ E) (I : L2.Inv X pins σ H s) (r : Vals vs us) (h : sp vs H Q E) :
    codeAny (model X.prog X.w) X.A (.call (.ref f) ⟨us, []⟩) (fun r s' => match r with
      | .ok (.ret u) => EP X pins σ Q u s'
      | .ok _ => False
      | .error e => X.xe e s') s := by
  refine codeAny_mono (F X.A X.stack s H us vs Q E hr I.env0 r h) fun r s' hq => ?_
  cases r with
  | error e => exact hx pins H s e s' I hq
  | ok fl =>
    cases fl with
    | ret u => exact I.after hq
    | next => exact False.elim hq
    | brk => exact False.elim hq
    | cont => exact False.elim hq
theorem dx_callV {x : Str} {k j : Nat} {Fx : List D → Option Res} (hF : FnXV X.prog X.w X.K X.mg X.base k x Fx) (tk : L2N.Takes X W) (hr : Room j X.A) (hk : k ≤ j) (ha : DPA X B .str (e :: es) gs) (hg : Gl X x := by rfl) (hdb : (x == ("__debug__" : Str)) = false := by decide)
    (he : starEach (e :: es) X.env = (false, eval e X.env) :: starEach es X.env := by rfl) (hpl : (backTo pos (starEach es X.env)).any (·.1) = false := by rfl) : DXE X B W (.Call (.Name x p) (e :: es) [] pos) (nX gs Fx) := by
  obtain ⟨fa, G, hm, kp⟩ := hF.ex
  refine ⟨⟨fun pins s σ H Q I ⟨O, ρ, r, gd, e, q⟩ => ?_⟩⟩
  obtain ⟨ds, e1, e2⟩ := bind_some e
  refine wpAny_Call_Name_kw (ld_glob I hg hm ?_ hdb)
  refine PySem.W.callWith_K (h₀ := X.base) I.ok.mod.kin kp (thn (ha.pa.run pos pins s σ H _ I ⟨O, ρ, ds, gd, e1, fun vs H1 s1 r1 => (show spX X.mg Fx vs H1 Q (WE W σ) from ⟨O, ds, r, (gd.same s1).otrk, r1, e2, ?_⟩)⟩) fun us s1 ⟨vs, H1, I1, r, q⟩ => ⟨I1.kIn, ?_⟩) he hpl
  · cases r with
    | ok d => exact fun v H2 s2 r2 => q v H2 (s1.trans s2) r2
    | er C => exact fun a H2 hC s2 => q a H2 hC (s1.trans s2)
  · exact wpAny_call (run_fnRS G (hr.mono hk) (L2N.passAt tk σ) I1 r q)
/-- a built-in over what may raise -/
theorem dx_b {x id : Str} {idn : String} {r : List V → Hp → VK → Prop} {Fb : List D → Option D} (hc : CallR X (.builtin idn) r) (hF : OpN r Fb) (hm : X.mg x = none) (hv : bootBuiltins x = some (.builtin idn)) (h : DXE X B W e g) (hg : Gl X x := by rfl) (hn : x ≠ "__name__" := by decide) (hdb : (x == ("__debug__" : Str)) = false := by decide)
    (he : starEach (e :: []) X.env = (false, eval e X.env) :: starEach [] X.env := by rfl) (hpl : (backTo pos (starEach [] X.env)).any (·.1) = false := by rfl) : DXE X B W (.Call (.Name x p) [e] [] pos) (bX g Fb) :=
  ⟨(pe_callB hc hg hm hv (pa_cons h.pe pa_nil he) hn hdb he hpl).imp fun σ H Q ⟨O, ρ, r, gd, e, q⟩ => by
    obtain ⟨r1, e1, e2⟩ := bind_some e
    refine ⟨O, ρ, r1, gd, e1, ?_⟩
    cases r1 with
    | ok d =>
      obtain ⟨z, e3, e4⟩ := bind_some e2
      cases e4
      exact fun v H1 s1 rv => hF O H1 [d] z [v] Q (gd.same s1).otrk e3 (.one rv) fun u H2 s2 ru => q u H2 (s1.trans s2) ru
    | er C =>
      cases e2
      exact q⟩
/-! ### statements -/
theorem dsx_of {Fo : Rho → Option Out} (h : DS X.nox B st Fo) : DSX X B W st (okF Fo) := ⟨h.ps.nox.imp fun E σ H ⟨O, ρ, r, gd, e, q⟩ => by
  obtain ⟨o, e1, e2⟩ := bind_some e
  cases e2
  exact ⟨O, ρ, o, gd, e1, q⟩⟩
theorem dsx_all {Fo : Rho → Option Out} (h : DSs X.nox B sts Fo) : DSsX X B W sts (okF Fo) := ⟨h.ps.nox.imp fun E σ H ⟨O, ρ, r, gd, e, q⟩ => by
  obtain ⟨o, e1, e2⟩ := bind_some e
  cases e2
  exact ⟨O, ρ, o, gd, e1, q⟩⟩
theorem dsx_cons (h : DSX X B W st F) (h2 : DSsX X B W sts G) : DSsX X B W (st :: sts) (seqX F G) := ⟨(pss_cons h.ps h2.ps).imp fun E σ H ⟨O, ρ, r, gd, e, q⟩ => by
  obtain ⟨r1, e1, e2⟩ := bind_some e
  refine ⟨O, ρ, r1, gd, e1, ?_⟩
  cases r1 with
  | er C => cases e2; exact q
  | ok o =>
    cases o with
    | nx ρ1 => exact fun σ1 H1 O1 s1 g1 => ⟨O1, ρ1, r, g1, e2, q.after gd s1⟩
    | rt d ρ1 => cases e2; exact q⟩
theorem dsx_one (h : DSX X B W st F) : DSsX X B W [st] F := ⟨pss_one h.ps⟩
theorem er_same {mg : Str → Option Value} {O : Addr → Prop} {σ : St} {H H' : Hp} {ρ : Rho} {E : Ends} {C : Str} {a : Addr} (gd : Good B O σ H ρ) (q : EndX mg B O σ H ρ E W (.er C)) (hC : mg C = some (.ref a)) (s : Same H H') : W (.ref a) none σ H' := q a σ H' hC (gd.frame.same s)
theorem dsx_expr (h : DXE X B W e g) (hs : swapsWith e none pos.line X.env = pure false := by rfl) : DSX X B W (.Expr e pos) (dropX g) := ⟨(ps_expr h.pe hs).imp fun E σ H ⟨O, ρ, r, gd, e, q⟩ => by
  obtain ⟨r1, e1, e2⟩ := bind_some e
  refine ⟨O, ρ, r1, gd, e1, ?_⟩
  cases r1 with
  | ok d => cases e2; exact fun v H1 s1 rv => q σ H1 O (.ext (.of gd s1)) (gd.same s1)
  | er C => cases e2; exact fun a H1 hC s1 => er_same gd q hC s1⟩
theorem dsx_ret (h : DXE X B W e g) : DSX X B W (.Return (some e) pos) (retX g) := ⟨(ps_ret h.pe).imp fun E σ H ⟨O, ρ, r, gd, e, q⟩ => by
  obtain ⟨r1, e1, e2⟩ := bind_some e
  refine ⟨O, ρ, r1, gd, e1, ?_⟩
  cases r1 with
  | ok d => cases e2; exact fun v H1 s1 rv => q v σ H1 O (.ext (.of gd s1)) (gd.same s1) (rv.less gd.osub)
  | er C => cases e2; exact fun a H1 hC s1 => er_same gd q hC s1⟩
theorem dsx_set {i : Nat} {x : Str} (hN : X.N.Nodup) (hi : X.N[i]? = some x) (hx : Loc X.env.scope x) (h : DXE X B W e g) (hs : swapsWith e (some (.Name x p')) pos.line X.env = pure false := by rfl) (hf : X.fn x = true ∨ X.env.scope.names.lookup x = some .local := by first | exact .inl rfl | exact .inr rfl | assumption) :
    DSX X B W (.Assign [.Name x p'] e pos) (setX i g) := ⟨(ps_set hN hi hx h.pe hs hf).imp fun E σ H ⟨O, ρ, r, gd, e, q⟩ => by
  obtain ⟨r1, e1, e2⟩ := bind_some e
  refine ⟨O, ρ, r1, gd, e1, ?_⟩
  cases r1 with
  | ok d =>
    cases e2
    refine fun v H1 s1 rv => ?_
    obtain ⟨g2, w2⟩ := (gd.same s1).set (i := i) rv
    exact q _ H1 O ⟨.of s1, fun _ h => .inl h, fun _ h => h, fun b h => .inl (w2 b h)⟩ g2
  | er C => cases e2; exact fun a H1 hC s1 => er_same gd q hC s1⟩
theorem dsx_if (hc : DET X.nox B e c) (h1 : DSsX X B W sts F) (h2 : DSsX X B W tts G) : DSX X B W (.If e sts tts pos) (iteX c F G) := ⟨(ps_if hc.pt.nox h1.ps h2.ps).imp fun E σ H ⟨O, ρ, r, gd, e, q⟩ => by
  obtain ⟨⟨k, ρ1⟩, e1, e2⟩ := bind_some e
  refine ⟨O, ρ, k, ρ1, gd, e1, fun H1 s1 => ?_⟩
  cases k with
  | true => exact ⟨O, ρ1, r, s1.good, e2, q.after gd (.ext s1)⟩
  | false => exact ⟨O, ρ1, r, s1.good, e2, q.after gd (.ext s1)⟩⟩
/-- what raising an error of the package asks of its class -/
structure ErrC (K : PySem.W.Frag) (mg : Str → Option Value) (x : Str) (C : Addr) : Prop where
  g : mg x = some (.ref C)
  x : PySem.W.excIn K C [.type "ValueError", .type "Exception", .type "BaseException", .type "object"] "ValueError.__new__" = true
  k : PySem.W.keepIn K (.ref C) = true
  b : PySem.W.subIn K (.ref C) (.type "BaseException") = some true
  t : PySem.W.typeIn K (.ref C) = some (.type "type")
theorem dsx_raise {x m : Str} {C : Addr} {j : Nat} {p2 p3 : Pos} (hE : ErrC X.K X.mg x C) (hc : X.calm = true) (tk : L2N.Takes X W) (hg : Gl X x := by rfl) (hdb : (x == ("__debug__" : Str)) = false := by decide) :
    DSX X B W (.Raise (some (.Call (.Name x p) [.Constant (.str m) j p2] [] p3)) none pos) (raiX x) :=
  ⟨(L2N.ps_raise hc tk (L2N.pmk_own PySem.F.excBase_ValueError hE.x hE.g hE.k (raises_own hE.b hE.t) hg hdb)).imp fun E σ H ⟨O, ρ, r, gd, e, q⟩ => by
    cases e
    exact q C σ H hE.g gd.frame⟩
end
/-! ### defs -/
@[simp] def runX (n tot : Nat) (b : Rho → Option OutX) : List D → Option Res := fun ds => if ds.length = n then (b (startR tot ds)).bind fun r => (match r with
  | .ok (.rt d _) => some (.ok d)
  | .ok (.nx _) => some (.ok .none)
  | .er C => some (.er C)) else none
@[simp] def starX (n tot : Nat) (b : Rho → Option OutX) : List D → Option Res := fun ds => if n ≤ ds.length ∧ ds.length ≤ 100000 then runX (n + 1) tot b (ds.take n ++ [.tuple (ds.drop n)]) else none
abbrev WD (E : XK) : WX := fun cls d _ H' => E cls d H'
section
variable {P : Program} {w : World} {K : PySem.W.Frag} {mg : Str → Option Value} {base : Heap}
theorem runX_read {N ps : List Str} {vs : List V} {n tot : Nat} {b : Rho → Option OutX} {H : Hp} {Q : VK} {E : XK} (hN : N.length = tot) (hpl : n ≤ tot) (h : spX mg (runX n tot b) vs H Q E) :
    ∃ O ds, ds.length = n ∧ RepL O H ds vs ∧ Otr O H ∧ tSX mg ⟨H, O, fun _ => False, nolam, Str.empty⟩ (WD E) b { nx := fun _ H' => Q .non H', rt := Q } (L2.start N vs) H := by
  obtain ⟨O, ds, r, t, rp, e, q⟩ := h
  unfold runX at e
  split at e
  · next hl =>
    obtain ⟨o, e1, e2⟩ := bind_some e
    refine ⟨O, ds, hl, rp, t, O, startR tot ds, o, good_start t rp hN (by omega), e1, ?_⟩
    cases o with
    | er C =>
      cases e2
      exact fun a σ' H' hC f => q a H' hC (f.out fun _ z => z)
    | ok o =>
      cases o with
      | nx ρ' =>
        cases e2
        exact fun σ' H' O' s3 g3 => q _ H' (g3.frame.out fun _ z => z) (rep_none.mpr rfl)
      | rt z ρ' =>
        cases e2
        exact fun v σ' H' O' s3 g3 r3 => q v H' (g3.frame.out fun _ z => z) r3
  · cases e
theorem fnx_mk {x : Str} {st : Stmt} {f : Addr} {fd : FuncData} {N ps : List Str} {k n tot : Nat} {b : Rho → Option OutX} (F : L2.Fun K x x st f fd) (S : FnScope N ps (defScope st)) (bi : Binds K fd ps []) (hm : mg x = some (.ref f)) (hN : N.length = tot) (hn : ps.length = n)
    (hb : ∀ (B : Base) (cdv : Value) (A : Around) (outer : List PySem.Env) (s : Shared) (H : Hp) (E : XK), Room k (A.deeper (envOfC x (defScope st) s.heap.objs.size f cdv)) → DSsX (cxOf (L2N.CX P w) P w K mg base N x (defScope st) f cdv A outer s H E) B (WD E) (defBody st) b) :
    FnX P w K mg base (k + 1) x (runX n tot b) := by
  have hpl : ps.length ≤ N.length := by have := congrArg List.length S.pre; rw [List.length_take] at this; omega
  have kp := F.kp
  obtain ⟨oc, od, kV, doc, pm, an, cdv, ct, osl, rfl, lk, hcd⟩ := F.ex
  refine ⟨f, _, ps, fn_of lk hcd S (fun vs H Q E h => ?_) fun A outer s H vs Q E hr h => ?_, hm, kp, bi⟩
  · obtain ⟨O, ds, hl, r, _⟩ := runX_read (ps := ps) hN (by omega) h
    rw [← r.length, hl, hn]
  · obtain ⟨O, ds, hl, r, t, q⟩ := runX_read (ps := ps) hN (by omega) h
    exact ⟨_, (hb _ cdv A outer s H E hr).ps, q⟩
theorem fnxv_mk {x pv : Str} {st : Stmt} {f : Addr} {fd : FuncData} {N ps : List Str} {k n tot : Nat} {b : Rho → Option OutX} (F : L2.Fun K x x st f fd) (S : FnScope N (ps ++ [pv]) (defScope st))
    (hbd : ∀ us rest : List Value, us.length = ps.length → bindArgs fd ⟨us ++ rest, []⟩ = (newTuple rest >>= fun t => pure (ps.zip us ++ [(pv, t)]))) (hm : mg x = some (.ref f)) (hN : N.length = tot) (hn : ps.length = n)
    (hb : ∀ (B : Base) (cdv : Value) (A : Around) (outer : List PySem.Env) (s : Shared) (H : Hp) (E : XK), Room k (A.deeper (envOfC x (defScope st) s.heap.objs.size f cdv)) → DSsX (cxOf (L2N.CX P w) P w K mg base N x (defScope st) f cdv A outer s H E) B (WD E) (defBody st) b) :
    FnXV P w K mg base (k + 1) x (starX n tot b) := by
  have hpl : (ps ++ [pv]).length ≤ N.length := by have := congrArg List.length S.pre; rw [List.length_take] at this; omega
  rw [List.length_append, List.length_singleton] at hpl
  have kp := F.kp
  obtain ⟨oc, od, kV, doc, pm, an, cdv, ct, osl, rfl, lk, hcd⟩ := F.ex
  refine ⟨f, FnR.imp (StX.fn_star (CX := L2N.CX P w) (sp := spX mg (runX (n + 1) tot b)) lk hcd S cxUpN hbd fun A outer s H vs Q E hr h => ?_) fun vs H Q E h => ?_, hm, kp⟩
  · obtain ⟨O, ds, hl, r, t, q⟩ := runX_read (ps := ps) hN (by omega) h
    exact ⟨_, (hb _ cdv A outer s H E hr).ps, q⟩
  · obtain ⟨O, ds, d, t, r, e, q⟩ := h
    unfold starX at e
    split at e
    · next hl =>
      have hlen := r.length
      refine ⟨vs.take n, vs.drop n, (List.take_append_drop n vs).symm, by rw [List.length_take]; omega, line_le (by rw [List.length_drop]; omega), fun p hp => ?_⟩
      refine ⟨O, _, d, fun b h => (same_upd hp).ne (t b h), (rep_upd hp (r.take n)).append (.one (rep_tup hp (r.drop n))), e, ?_⟩
      cases d with
      | ok d => exact fun v H' s' r' => q v H' ((same_upd hp).trans s') r'
      | er C => exact fun a H' hC s' => q a H' hC ((same_upd hp).trans s')
    · cases e
end
end DL

set_option maxHeartbeats 2000000
/-! lambdas as values, and what calling one gives -/
namespace DL
open PySem PySem.Spec
open PyProof.Rows hiding St
open L2
def LamO (q : Str) (params : Arguments) (body : Expr) (scope : Scope) (cl : List (Str × Addr)) (f c' : Addr) : HO := .ext fun h => ∃ pm ctv : Value, h.get? f = some (PySem.W.kla_obj "<lambda>" q params body scope cl pm c' ctv)
theorem un_comp {fs fs' ex' : List Addr} {H0 H1 H2 : Hp} {h0 h1 h2 : Heap} (a : Un fs [] H0 H1 h0 h1) (b : Un fs' ex' H1 H2 h1 h2) (hf : ∀ c o, h0.get? c = some o → c ∈ fs' → c ∈ fs) (hx : ∀ c o, h0.get? c = some o → c ∉ ex') : Un fs [] H0 H2 h0 h2 where
  keep := fun c o q n hc _ => b.keep c o (a.keep c o q n hc (by simp)) (a.free c o q n (by simp)) (fun z => hc (hf c o q z)) (hx c o q)
  slot := fun c o q n hc _ => by
    obtain ⟨sl, e1⟩ := a.slot c o q n hc (by simp)
    obtain ⟨sl', e2⟩ := b.any e1 (a.free c o q n (by simp)) (hx c o q)
    exact ⟨sl', e2⟩
  free := fun c o q n _ => by
    obtain ⟨o', e1⟩ := a.there c o q (by simp)
    exact b.free c o' e1 (a.free c o q n (by simp)) (hx c o q)
  there := fun c o q _ => by
    obtain ⟨o', e1⟩ := a.there c o q (by simp)
    exact b.there c o' e1 (hx c o q)
  tups := fun c xs q => b.tups c xs (a.tups c xs q)
  frzs := fun c o xs q => b.frzs c o xs (a.frzs c o xs q)
  tbls := fun c ps q => by
    obtain ⟨m1, e1⟩ := a.tbls c ps q
    obtain ⟨m2, e2⟩ := b.tbls c _ e1
    exact ⟨m1 ++ m2, by rw [e2, Array.append_assoc]⟩
section
variable {X : Cx} {pins : List (Addr × Obj)} {σ : L2.St} {H : Hp} {s : Shared}
/-- an object that stands, made in this context, is told of from now on -/
theorem inv_track {f : Addr} {φ : Heap → Prop} (I : L2.Inv X pins σ H s) (hf : H f = none) (hs : X.s_0.heap.objs.size ≤ f) (nL : f ≠ X.env.locals) (nc : ∀ x c, X.env.cells.lookup x = some c → c ≠ f) (np : ∀ p ∈ X.pn ++ pins, p.1 ≠ f)
    (h : φ s.heap) (ho : ∃ o, s.heap.get? f = some o) (st : ∀ h1 h2 : Heap, φ h1 → (∀ o, h1.get? f = some o → h2.get? f = some o) → φ h2) : L2.Inv X pins σ (upd H f (.ext φ)) s := by
  have ne : ∀ b o, H b = some o → b ≠ f := fun b o e => ne_of_none e hf
  refine ⟨I.ok, I.os, I.bare, ⟨I.base.keep, I.base.slot, fun b o e n hx => ?_, I.base.there, fun b xs e => ?_, fun b o u e => ?_, fun b ps e => ?_⟩, I.loc, I.cell, ?_, fun x c e => ?_, fun p hp => ?_, fun b u e => ?_, I.len⟩
  · rw [upd_ne (Nat.ne_of_lt (Nat.lt_of_lt_of_le (Heap.lt_size e) hs))]
    exact I.base.free b o e n hx
  · have z := I.base.tups b xs e
    rw [upd_ne (ne b _ z)]
    exact z
  · have z := I.base.frzs b o u e
    rw [upd_ne (ne b _ z)]
    exact z
  · obtain ⟨more, z⟩ := I.base.tbls b ps e
    exact ⟨more, by rw [upd_ne (ne b _ z)]; exact z⟩
  · rw [upd_ne nL.symm]
    exact I.free
  · rw [upd_ne (nc x c e)]
    exact I.freeC x c e
  · obtain ⟨z1, z2, z3⟩ := I.pin p hp
    exact ⟨z1, by rw [upd_ne (np p hp)]; exact z2, z3⟩
  · by_cases hb : b = f
    · rw [hb, upd_same] at e
      cases e
      rw [hb]
      exact ⟨h, ho, st⟩
    · rw [upd_ne hb] at e
      exact (I.hok b u e).stay (fun d v _ q => q) (fun d q => by rw [upd_ne (ne d _ q)]; exact q) fun d xs q => by rw [upd_ne (ne d _ q)]; exact q
theorem among_line {pos p' : Pos} {c cv : Value} (l : List Value) (h : TriplesOk l) (hc : codeAmong p' (l ++ [rawInt pos.line, rawInt pos.col, c]) = some cv) : codeAmong p' l = some cv ∨ (cv = c ∧ p'.line = pos.line) := by
  fun_induction TriplesOk l with
  | case1 =>
    simp only [List.nil_append, rawInt, codeAmong] at hc
    split at hc
    · next q =>
      simp only [Bool.and_eq_true, beq_iff_eq] at q
      exact .inr ⟨(Option.some.inj hc).symm, by omega⟩
    · cases hc
  | case2 a t b u x rest ih =>
    simp only [List.cons_append, codeAmong] at hc ⊢
    split at hc
    · rename_i q
      rw [if_pos q]
      exact .inl hc
    · rename_i q
      rw [if_neg q]
      exact ih h hc
  | case3 l h1 h2 => exact h.elim
/-- a lambda is made -/
theorem lam_make {c P : Addr} {params : Arguments} {body : Expr} {scope : Scope} {pos : Pos} {E : Value → Shared → Prop} {Q : Value → Shared → Prop} (I : L2.Inv X pins σ H s) (TB : LamX.TabB X.base X.mg c P) (hcode : X.env.code = .ref c)
    (hT : ∃ ps, H P = some (.tbl ps) ∧ TabQ H ps) (hq : qn pos.line = X.env.qual ++ "<lambda>") (hdef : defaultsOf params X.env = ([], [])) (L : LamX.LamS X.env.scope scope)
    (h : ∀ (f c' : Addr) (H1 : Hp) (s' : Shared), L2.Inv X pins σ H1 s' → Same H H1 → H f = none → H1 f = some (LamO (X.env.qual ++ "<lambda>") params body scope (cloFrom X.env.cells scope.names []) f c') → H1 c' = some (LamX.CodeO c' (X.env.qual ++ "<lambda>")) → Q (.ref f) s') :
    wpAny (model X.prog X.w) X.A (eval (.Lambda params body scope pos) X.env) Q E s := by
  obtain ⟨ps, hP, ht, ha⟩ := hT
  refine PySem.W.kla_eval hdef ?_
  have bP : s.heap.BuiltinsAt X.mg P := TB.bm.keeps I.bk
  have hP' : s.heap.get? P = some { cls := .none, data := .fields ps } := I.hok P _ hP
  have hfree := L.has I.ok
  -- f, new, is told of
  have fin : ∀ (f c' : Addr) (pm ctv : Value) (H1 : Hp) (s' : Shared), L2.Inv X pins σ H1 s' → Same H H1 → s.heap.objs.size ≤ f → H1 f = none → s'.heap.get? f = some (PySem.W.kla_obj "<lambda>" (X.env.qual ++ "<lambda>") params body scope (cloFrom X.env.cells scope.names []) pm c' ctv) → H1 c' = some (LamX.CodeO c' (X.env.qual ++ "<lambda>")) → Q (.ref f) s' := fun f c' pm ctv H1 s' I1 sm hf n1 ho hc => by
    have I2 := inv_track (φ := fun h => ∃ pm ctv : Value, h.get? f = some (PySem.W.kla_obj "<lambda>" (X.env.qual ++ "<lambda>") params body scope (cloFrom X.env.cells scope.names []) pm c' ctv)) I1 n1 (Nat.le_trans I.sz hf) (Nat.ne_of_gt (Nat.lt_of_lt_of_le I.lt hf))
      (fun x c e => by
        obtain ⟨v, z⟩ := I.cell x c e
        exact Nat.ne_of_lt (Nat.lt_of_lt_of_le z.lt hf)) (fun p hp => Nat.ne_of_lt (Nat.lt_of_lt_of_le (Heap.lt_size (I.pin p hp).1) hf)) ⟨pm, ctv, ho⟩ ⟨_, ho⟩ fun h1 h2 ⟨a, b, e⟩ st => ⟨a, b, st _ e⟩
    exact h f c' _ s' I2 (sm.put (I.hok.fresh hf) (.none n1)) (I.hok.fresh hf) upd_same (by rw [upd_ne (ne_of_none hc n1)]; exact hc)
  cases hc : codeAmong pos ps.toList with
  | none =>
    refine PySem.W.kla_makeFunction (mg := X.mg) (c := c) (P := P) (ps := ps) (closure_ok hfree) I.ok.glob (I.mod.glob.keeps I.bk) hcode (TB.code.keeps I.bk) hP' ht hc TB.gP bP fun c' ctv h' tk hx hge hlt hrec htb => ?_
    obtain ⟨c2, oc, vs, t, e2, hoc, hd, hv⟩ := hrec
    cases e2
    have hsz : s.heap.objs.size ≤ h'.objs.size := Nat.le_trans hge (Nat.le_of_lt hlt)
    have nC : H c' = none := I.hok.fresh hge
    have nPc : P ≠ c' := ne_of_none hP nC
    have I1 := LamX.inv_table (t' := tk) (more := #[rawInt pos.line, rawInt pos.col, .ref c']) (h' := h'.push (PySem.W.kla_obj "<lambda>" (X.env.qual ++ "<lambda>") params body scope (cloFrom X.env.cells scope.names []) ((X.mg "__name__").getD .none) c' ctv)) I hP
      (fun b o hb e => Heap.get?_push_of_some _ (hx b o hb e)) (Heap.get?_push_of_some _ htb) hge ⟨oc, vs, t, Heap.get?_push_of_some _ hoc, hd, hv⟩
    generalize hH1 : upd (upd H P (.tbl (ps ++ #[rawInt pos.line, rawInt pos.col, .ref c']))) c' (LamX.CodeO c' (X.env.qual ++ "<lambda>")) = H1 at I1
    have at_ : ∀ b o, H b = some o → b ≠ P → H1 b = some o := fun b o e n => by rw [← hH1, upd_ne (ne_of_none e nC), upd_ne n]; exact e
    have atC : H1 c' = some (LamX.CodeO c' (X.env.qual ++ "<lambda>")) := by rw [← hH1]; exact upd_same
    have atP : H1 P = some (.tbl (ps ++ #[rawInt pos.line, rawInt pos.col, .ref c'])) := by rw [← hH1, upd_ne nPc, upd_same]
    have kC : ∀ b q, H b = some (LamX.CodeO b q) → H1 b = some (LamX.CodeO b q) := fun b q e => at_ b _ e fun z => by
      rw [z, hP] at e
      exact LamX.codeO_ne ps (Option.some.inj e).symm
    have sm : Same H H1 := by
      refine ⟨fun b o e n => at_ b o e fun z => ?_, ⟨kC, fun b ps0 e => ?_⟩⟩
      · rw [z, hP] at e
        exact n ps (Option.some.inj e).symm
      · by_cases hb : b = P
        · rw [hb, hP] at e
          cases e
          rw [hb]
          refine ⟨_, atP, fun ⟨t1, t2⟩ => ?_⟩
          have eL : (ps ++ #[rawInt pos.line, rawInt pos.col, .ref c']).toList = ps.toList ++ [rawInt pos.line, rawInt pos.col, .ref c'] := by simp
          refine ⟨by rw [eL]; exact PySem.TriplesOk_snoc _ _ _ _ t1, fun p' cv hcv => ?_⟩
          rw [eL] at hcv
          rcases among_line _ t1 hcv with z | ⟨z, hl⟩
          · obtain ⟨c0, e1, e2⟩ := t2 p' cv z
            exact ⟨c0, e1, kC _ _ e2⟩
          · exact ⟨c', z, by rw [hl, hq]; exact atC⟩
        · exact ⟨ps0, at_ b _ e hb, fun z => z.mono kC⟩
    have n1 : H1 h'.objs.size = none := by
      have e1 : h'.objs.size ≠ c' := Nat.ne_of_gt hlt
      have e2 : h'.objs.size ≠ P := Nat.ne_of_gt (Nat.lt_of_lt_of_le (Heap.lt_size hP') hsz)
      rw [← hH1, upd_ne e1, upd_ne e2]
      exact I.hok.fresh hsz
    exact fin h'.objs.size c' _ ctv H1 _ I1 sm hsz n1 (Heap.get?_push_size _ rfl) atC
  | some cv =>
    obtain ⟨c', e, hco⟩ := ha pos cv hc
    subst e
    rw [hq] at hco
    refine PySem.W.kla_makeFunctionHit (mg := X.mg) (c := c) (P := P) (ps := ps) (closure_ok hfree) I.ok.glob (I.mod.glob.keeps I.bk) hcode (TB.code.keeps I.bk) hP' ht hc bP fun ctv h' tk hx hsz => ?_
    have I1 : L2.Inv X pins σ H { s with heap := h'.push (PySem.W.kla_obj "<lambda>" (X.env.qual ++ "<lambda>") params body scope (cloFrom X.env.cells scope.names []) ((X.mg "__name__").getD .none) c' ctv), toks := tk } := I.kept fun b o e => Heap.get?_push_of_some _ (hx b o e)
    exact fin h'.objs.size c' _ ctv H _ I1 (Same.refl H) hsz (I.hok.fresh hsz) (Heap.get?_push_size _ rfl) hco
/-! ### its call -/
def lamCxN (X : Cx) (A : Around) (outer : List Env) (s : Shared) (H : Hp) (E : XK) (scope : Scope) (f c' : Addr) : Cx :=
  { LamX.lamCx X A outer s H E scope f c' with xe := fun e s' => wpAny (model X.prog X.w) (A.deeper (LamX.lamEnv X scope s.heap.objs.size f c')) (leaving (LamX.lamEnv X scope s.heap.objs.size f c') e) (fun _ s'' => L2N.CX X.prog X.w outer H s E e s'') (fun e' s'' => L2N.CX X.prog X.w outer H s E e' s'') s' }
theorem takes_lam {A : Around} {outer : List Env} {E : XK} {scope : Scope} {f c' : Addr} : L2N.Takes (lamCxN X A outer s H E scope f c') (WD E) := L2N.takes_of rfl rfl rfl rfl
theorem lam_act {scope : Scope} {params : Arguments} {body : Expr} {f c' : Addr} {k : Nat} {tb : XK → TE} (I : L2.Inv X pins σ H s) (L : LamX.LamS X.env.scope scope) (hf : H f = some (LamO (X.env.qual ++ "<lambda>") params body scope (cloFrom X.env.cells scope.names []) f c')) (hc : H c' = some (LamX.CodeO c' (X.env.qual ++ "<lambda>")))
    (hbind : ∀ (cl : List (Str × Addr)) (pm cv ctv : Value), bindArgs (PySem.W.kla_fn "<lambda>" (X.env.qual ++ "<lambda>") params body scope cl pm cv ctv) ⟨[], []⟩ = pure [])
    (hbody : ∀ (A : Around) (outer : List Env) (s1 : Shared) (H1 : Hp) (E : XK), Room k (A.deeper (LamX.lamEnv X scope s1.heap.objs.size f c')) → PE (lamCxN X A outer s1 H1 E scope f c') body (tb E))
    {A : Around} {outer : List Env} {s1 : Shared} {HZ : Hp} {Q : VK} {E : XK} (hr : Room (k + 1) A) (e0 : Env0 X.prog X.w X.K X.mg X.base A outer s1 HZ) (un : Un (frs X.stack) [] H HZ s.heap s1.heap) (hs : Same H HZ) (h : tb E σ HZ Q) :
    PySem.W.FnAt f s1.heap ∧ codeAny (model X.prog X.w) A (.call (.ref f) ⟨[], []⟩) (CR (L2N.CX X.prog X.w) outer X.prog X.w HZ s1 Q E) s1 := by
  obtain ⟨⟨pm, ctv, of1⟩, _, _⟩ := e0.hok f _ (hs.keep f _ hf (fun ps z => by cases z))
  obtain ⟨⟨oc, vs, t, hoc, hdc, hvc⟩, _, _⟩ := e0.hok c' _ (hs.tb.code c' _ hc)
  refine ⟨⟨_, _, _, _, of1⟩, ?_⟩
  refine PySem.W.kla_callFunE hr.depth of1 rfl L.co L.gen rfl ⟨c', oc, vs, t, rfl, hoc, hdc, hvc⟩ ?_
  rw [hbind]
  refine wpAny_pure (wpAny_newFunctionEnv (fun y hy => (L.own y hy).2) (fun y hy => absurd hy (by simp)) (fun h₁ hns hsb => ⟨(e0.mod.nolimit.keeps fun b o e => (e0.bs b o e).1).fresh _ hsb, ?_⟩) L.kind)
  show codeAny _ _ (.expr body (LamX.lamEnv X scope s1.heap.objs.size f c')) _ _
  have kp : ∀ b o, s1.heap.get? b = some o → h₁.get? b = some o := fun b o e => hsb.extBut b o (Nat.ne_of_lt (Heap.lt_size e)) (Heap.get?_push_of_some _ e)
  have J0 := LamX.lam_start2 (E := E) (f := f) (c' := c') (tk := s1.toks + ([] : List (Str × Value)).length) I L e0 hr.hd un hns kp
  have J : L2.Inv (lamCxN X A outer s1 HZ E scope f c') [] σ HZ { s1 with heap := h₁, toks := s1.toks + ([] : List (Str × Value)).length } := J0.wish _
  refine PySem.W.kla_codeExpr (wpAny_mono ((hbody _ _ s1 HZ E (hr.deeper _)).run [] _ _ HZ Q J h) (fun v s' hq => ?_) fun e s' hq => hq)
  obtain ⟨w', H', J', rv, q⟩ := hq
  exact ⟨w', H', J'.os, J'.bare, J'.base, J'.hok, rv, q⟩
end
/-- calling f, wherever it is done behind the state (H0, h0), gives r -/
structure ActP (P : Program) (w : World) (K : PySem.W.Frag) (mg : Str → Option Value) (base : Heap) (k : Nat) (fs : List Addr) (H0 : Hp) (h0 : Heap) (O : Addr → Prop) (f : Addr) (r : Res) : Prop where
  run : ∀ (A : Around) (outer : List Env) (s1 : Shared) (HZ : Hp) (Q : VK) (E : XK), Room k A → Env0 P w K mg base A outer s1 HZ → Un fs [] H0 HZ h0 s1.heap → Same H0 HZ → RX mg O HZ Q E r →
    PySem.W.FnAt f s1.heap ∧ codeAny (model P w) A (.call (.ref f) ⟨[], []⟩) (CR (L2N.CX P w) outer P w HZ s1 Q E) s1
/-- the context Z runs behind the state (H0, h0), above the frames fs -/
structure Far (fs : List Addr) (H0 : Hp) (h0 : Heap) (Z : Cx) : Prop where
  un : ∀ H h, Un Z.fs Z.ex Z.H_0 H Z.s_0.heap h → Un fs [] H0 H h0 h
  stk : ∀ b o, h0.get? b = some o → b ∈ frs Z.stack → b ∈ fs
  ex : ∀ b o, h0.get? b = some o → b ∉ Z.ex
  lt : ∀ b o, h0.get? b = some o → b < Z.s_0.heap.objs.size
section
variable {fs : List Addr} {H0 : Hp} {h0 : Heap} {Z : Cx} {pins : List (Addr × Obj)} {σ : L2.St} {H : Hp} {s : Shared}
theorem Far.at (F : Far fs H0 h0 Z) (I : L2.Inv Z pins σ H s) : Un fs [] H0 H h0 s.heap := F.un H s.heap I.base
theorem frs_cx {CX : CXT} {P : Program} {w : World} {K : PySem.W.Frag} {mg : Str → Option Value} {base : Heap} {N : List Str} {qual : Str} {scope : Scope} {f : Addr} {cd : Value} {A : Around} {outer : List Env} {E : XK} {b : Addr} (h : b ∈ frs (cxOf CX P w K mg base N qual scope f cd A outer s H E).stack) : b = s.heap.objs.size ∨ b ∈ frs outer := by
  have h : b ∈ frs (envOfC qual scope s.heap.objs.size f cd :: outer) := h
  unfold frs at h
  rw [List.filterMap_cons] at h
  exact List.mem_cons.mp h
/-- a def called in that context -/
theorem Far.call {CX : CXT} {P : Program} {w : World} {K : PySem.W.Frag} {mg : Str → Option Value} {base : Heap} {N : List Str} {qual : Str} {scope : Scope} {f : Addr} {cd : Value} {A : Around} {E : XK} (F : Far fs H0 h0 Z) (I : L2.Inv Z pins σ H s) : Far fs H0 h0 (cxOf CX P w K mg base N qual scope f cd A Z.stack s H E) := by
  have u0 := F.at I
  have lt : ∀ b o, h0.get? b = some o → b < s.heap.objs.size := fun b o e => by
    obtain ⟨o', e'⟩ := u0.there b o e (by simp)
    exact Heap.lt_size e'
  refine ⟨fun H' h u => un_comp u0 u F.stk fun c o _ z => absurd (show c ∈ ([] : List Addr) from z) (by simp), fun b o e hb => ?_, fun c o _ z => absurd (show c ∈ ([] : List Addr) from z) (by simp), lt⟩
  rcases frs_cx hb with z | z
  · exact absurd (lt b o e) (by rw [z]; exact Nat.lt_irrefl _)
  · exact F.stk b o e z
/-- the state itself: a def called from X -/
theorem far_of {CX : CXT} {P : Program} {w : World} {K : PySem.W.Frag} {mg : Str → Option Value} {base : Heap} {N : List Str} {qual : Str} {scope : Scope} {f : Addr} {cd : Value} {A : Around} {E : XK} {outer : List Env} {H : Hp} {s : Shared} : Far (frs outer) H s.heap (cxOf CX P w K mg base N qual scope f cd A outer s H E) := by
  refine ⟨fun H' h u => u, fun b o e hb => ?_, fun c o _ z => absurd (show c ∈ ([] : List Addr) from z) (by simp), fun b o e => Heap.lt_size e⟩
  rcases frs_cx hb with z | z
  · exact absurd (Heap.lt_size e) (by rw [z]; exact Nat.lt_irrefl _)
  · exact z
theorem Far.blk {scope : Scope} {ce : Env} {fp : List Addr} {pn : List (Addr × Obj)} (F : Far fs H0 h0 Z) (I : L2.Inv Z pins σ H s) (hf : ∀ b ∈ fp, FpOk Z pins H b) : Far fs H0 h0 (blkG Z s H scope ce fp pn) := by
  have u0 := F.at I
  have nx : ∀ b o, h0.get? b = some o → b ∉ fp := fun b o e hb => by
    rcases (hf b hb).2.2.2.1 with z | z
    · exact F.ex b o e z
    · exact absurd (Nat.lt_of_lt_of_le (F.lt b o e) z) (Nat.lt_irrefl _)
  refine ⟨fun H' h u => un_comp u0 u F.stk nx, F.stk, nx, fun b o e => ?_⟩
  obtain ⟨o', e'⟩ := u0.there b o e (by simp)
  exact Heap.lt_size e'
theorem Far.tr {pn : List (Addr × Obj)} {xe : Value → Shared → Prop} (F : Far fs H0 h0 Z) : Far fs H0 h0 (Z.tr pn xe) := ⟨F.un, F.stk, F.ex, F.lt⟩
theorem Far.nox (F : Far fs H0 h0 Z) : Far fs H0 h0 Z.nox := ⟨F.un, F.stk, F.ex, F.lt⟩
/-- x(), x the name of such a thing -/
theorem pe_actP {O : Addr → Prop} {W : WX} {k i : Nat} {f : Addr} {r : Res} {x : Str} {p1 p2 : Pos} (F : Far fs H0 h0 Z) (act : ActP Z.prog Z.w Z.K Z.mg Z.base k fs H0 h0 O f r) (tk : L2N.Takes Z W) (hr : Room k Z.A)
    (hN : Z.N[i]? = some x) (hv : Vis Z.env.scope x) (hd : (x == ("__debug__" : Str)) = false := by decide) (hcd : (x == ("__classdict__" : Str)) = false := by decide) :
    PE Z (.Call (.Name x p1) [] [] p2) (fun σ H Q => σ[i]? = some (some (.ref f)) ∧ Same H0 H ∧ RX Z.mg O H Q (fun cls d H' => W cls d σ H') r) := by
  refine ⟨fun pins s σ H Q I ⟨hs, sm, hR⟩ => ?_⟩
  refine wpAny_Call_Name_kw (thn ((pe_var (pos := p1) (i := i) hN hv hd hcd).run pins s σ H (fun v H1 => v = .ref f ∧ H1 = H) I ⟨.ref f, hs, rfl, rfl⟩) fun u s1 ⟨v, H1, I1, r1, ev, eH⟩ => ?_)
  subst ev eH
  obtain rfl : u = Value.ref f := r1
  obtain ⟨fa, rc⟩ := act.run Z.A Z.stack s1 H1 Q (fun cls d H' => W cls d σ H') hr I1.env0 (F.at I1) sm hR
  refine PySem.W.callWith_F0 fa (wpAny_call (codeAny_mono rc fun r s' hq => ?_))
  cases r with
  | error e => exact L2N.passAt tk σ pins H1 s1 e s' I1 hq
  | ok fl =>
    cases fl with
    | ret u => exact I1.after hq
    | next => exact False.elim hq
    | brk => exact False.elim hq
    | cont => exact False.elim hq
end
end DL

set_option maxHeartbeats 2000000
/-! the defs that call what they get: outcome (value or error), all_raise -/
namespace DL
open PySem PySem.Spec
open PyProof.Rows hiding St
open L2 HotX
open L2H hiding St
theorem ActP.mono {P : Program} {w : World} {K : PySem.W.Frag} {mg : Str → Option Value} {base : Heap} {j k : Nat} {fs : List Addr} {H0 : Hp} {h0 : Heap} {O : Addr → Prop} {f : Addr} {r : Res} (a : ActP P w K mg base j fs H0 h0 O f r) (h : j ≤ k) : ActP P w K mg base k fs H0 h0 O f r :=
  ⟨fun A outer s1 HZ Q E hr => a.run A outer s1 HZ Q E (hr.mono h)⟩
@[simp] def outD : Res → D
  | .ok d => .tuple [.str "value", d]
  | .er C => .tuple [.str C]
structure ErrOk (P : Program) (w : World) (K : PySem.W.Frag) (mg : Str → Option Value) (base : Heap) (k : Nat) (x : Str) (CS : Addr) (C : Str) : Prop where
  ok : ∀ a, mg C = some (.ref a) → PySem.W.exmOne K (.ref a) (.ref CS) = some true ∧ ErrFn P w K mg base k x a C
theorem takes0N {X : Cx} : L2N.Takes X (fun _ _ _ _ => False) := fun _ _ x => by
  obtain ⟨_, _, _, _, _, _, _, _, _, _, _, _, _, _, _, _, z⟩ := x
  exact z.elim
/-- the error's name, asked within the except suite -/
theorem pe_err {Z : Cx} {a : Addr} {oe : Obj} {cls : Value} {d : Option Addr} {pn : List (Addr × Obj)} {i j k : Nat} {x y : Str} {p p2 pos : Pos} (hz : L2N.Zn cls d oe) (hf : ∃ vs, oe.data = .fields vs) (hr : Room j Z.A) (hk : k ≤ j)
    (hg : Gl (Z.suite a ((a, oe) :: pn)) x) (hN : (Z.suite a ((a, oe) :: pn)).N[i]? = some y) (hv : Vis (Z.suite a ((a, oe) :: pn)).env.scope y) (hdb : (x == ("__debug__" : Str)) = false := by decide) (hdy : (y == ("__debug__" : Str)) = false := by decide) (hcy : (y == ("__classdict__" : Str)) = false := by decide)
    (he : starEach [Expr.Name y p2] (Z.suite a ((a, oe) :: pn)).env = (false, eval (.Name y p2) (Z.suite a ((a, oe) :: pn)).env) :: starEach [] (Z.suite a ((a, oe) :: pn)).env := by rfl) (hpl : (backTo pos (starEach [] (Z.suite a ((a, oe) :: pn)).env)).any (·.1) = false := by rfl) :
    PE (Z.suite a ((a, oe) :: pn)) (.Call (.Name x p) [.Name y p2] [] pos) (fun σ H Q => ∃ C nm, cls = .ref C ∧ d = none ∧ ErrFn Z.prog Z.w Z.K Z.mg Z.base k x C nm ∧ σ[i]? = some (some (.ref a)) ∧ ∀ H', Same H H' → Q (.str nm) H') := by
  refine ⟨fun pins s σ H Q I ⟨C, nm, ec, ed, EF, hs, q⟩ => ?_⟩
  subst ec ed
  obtain ⟨f, fd, y', run, hm, kp, bi⟩ := EF.ex
  refine wpAny_Call_Name_kw (ld_glob I hg hm ?_ hdb)
  have hp : PA (Z.suite a ((a, oe) :: pn)) [.Name y p2] (tCons (tVar i) tNil) := pa_cons (pv i hN hv hdy hcy) pa_nil
  refine PySem.W.callWith_K (h₀ := (Z.suite a ((a, oe) :: pn)).base) I.ok.mod.kin kp (thn (hp.run pos pins s σ H (fun vs H1 => vs = [V.ref a] ∧ H1 = H) I ⟨_, hs, rfl, rfl⟩) fun us s1 ⟨vs, H1, I1, r, ev, eH⟩ => ⟨I1.kIn, ?_⟩) he hpl
  subst ev eH
  cases r with
  | cons r rr =>
    cases rr
    cases r
    obtain ⟨fv, hfv⟩ := hf
    have P1 := I1.pin (a, oe) (List.mem_append_left _ List.mem_cons_self)
    have hpin : PinOk (Z.suite a ((a, oe) :: pn)).stack H1 s1 (a, oe) := ⟨P1.1, P1.2.1, fun hm => (List.mem_cons.mp (I1.stkSub a hm)).elim P1.2.2.1 P1.2.2.2.1, P1.2.2.2.2⟩
    have hot : Hot1 (Z.suite a ((a, oe) :: pn)).A (a, oe) := ⟨rfl, fv, hfv, hz.2.2 fv hfv⟩
    have hr' : RoomH k (Z.suite a ((a, oe) :: pn)).A := ⟨(hr.mono hk).dp, (hr.mono hk).un⟩
    have b := bi s1 [.ref a] I1.kIn rfl
    rw [List.append_nil] at b
    refine wpAny_call (codeAny_mono (run (Z.suite a ((a, oe) :: pn)).A (Z.suite a ((a, oe) :: pn)).stack s1 H1 ⟨[.ref a], []⟩ Q E0 (a, oe) hr' hot hpin hz.zc I1.env0 b q) fun r s' hq => ?_)
    cases r with
    | error e => exact False.elim hq
    | ok fl =>
      cases fl with
      | ret u => exact I1.after hq
      | next => exact False.elim hq
      | brk => exact False.elim hq
      | cont => exact False.elim hq
/-- the def _law_outcome: run at a state behind (H0, h0) -/
structure OutFn (P : Program) (w : World) (K : PySem.W.Frag) (mg : Str → Option Value) (base : Heap) (k : Nat) (x xe : Str) (CS : Addr) : Prop where
  ex : ∃ g fd a, mg x = some (.ref g) ∧ PySem.W.keepIn K (.ref g) = true ∧ Binds K fd [a] [] ∧ ∀ (A : Around) (outer : List Env) (s1 : Shared) (H1 : Hp) (args : Args) (fs : List Addr) (H0 : Hp) (h0 : Heap) (O : Addr → Prop) (f : Addr) (r : Res) (Q : VK), Room (k + 1) A → Env0 P w K mg base A outer s1 H1 →
    Un fs [] H0 H1 h0 s1.heap → (∀ b o, h0.get? b = some o → b ∈ frs outer → b ∈ fs) → Same H0 H1 → Otr O H0 → ActP P w K mg base k fs H0 h0 O f r → (∀ C, r = .er C → ErrOk P w K mg base k xe CS C) → BindsTo s1 fd args ([a].zip [.ref f]) →
    (∀ v H', Same H1 H' → Rep O H' (outD r) v → Q v H') → codeAny (model P w) A (.call (.ref g) args) (CR CX0 outer P w H1 s1 Q E0) s1
theorem far_un {CX : CXT} {P : Program} {w : World} {K : PySem.W.Frag} {mg : Str → Option Value} {base : Heap} {N : List Str} {qual : Str} {scope : Scope} {f : Addr} {cd : Value} {A : Around} {E : XK} {outer : List Env} {H0 H : Hp} {h0 : Heap} {s : Shared} {fs : List Addr}
    (u0 : Un fs [] H0 H h0 s.heap) (stk : ∀ b o, h0.get? b = some o → b ∈ frs outer → b ∈ fs) : Far fs H0 h0 (cxOf CX P w K mg base N qual scope f cd A outer s H E) := by
  have lt : ∀ b o, h0.get? b = some o → b < s.heap.objs.size := fun b o e => by
    obtain ⟨o', e'⟩ := u0.there b o e (by simp)
    exact Heap.lt_size e'
  refine ⟨fun H' h u => un_comp u0 u stk fun c o _ z => absurd (show c ∈ ([] : List Addr) from z) (by simp), fun b o e hb => ?_, fun c o _ z => absurd (show c ∈ ([] : List Addr) from z) (by simp), lt⟩
  rcases frs_cx hb with z | z
  · exact absurd (lt b o e) (by rw [z]; exact Nat.lt_irrefl _)
  · exact stk b o e z
def tActP (mg : Str → Option Value) (H0 : Hp) (O : Addr → Prop) (f : Addr) (r : Res) (i : Nat) (W : WX) : TE := fun σ H Q => σ[i]? = some (some (.ref f)) ∧ Same H0 H ∧ RX mg O H Q (fun cls d H' => W cls d σ H') r
def tErrP (P : Program) (w : World) (K : PySem.W.Frag) (mg : Str → Option Value) (base : Heap) (k : Nat) (x : Str) (i : Nat) (a : Addr) (cls : Value) (d : Option Addr) : TE := fun σ H Q => ∃ C nm, cls = .ref C ∧ d = none ∧ ErrFn P w K mg base k x C nm ∧ σ[i]? = some (some (.ref a)) ∧ ∀ H', Same H H' → Q (.str nm) H'
def outT (K : PySem.W.Frag) (CS : Addr) (TA : WX → TE) (TR : Addr → Value → Option Addr → TE) : TS := tSeq (tAsg (tTup (tCons (tC (.str "nothing")) tNil)) (gName 1)) (tSeq (fun D σ H => tAsg (tTup (tCons (tC (.str "value")) (tCons (TA (wAs K (.ref CS) 2 (fun a cls d => tAsg (tTup (tCons (TR a cls d) tNil)) (gName 1)) (fun _ _ _ _ => False) D)) tNil))) (gName 1) D σ H) (tRet (tVar 1)))
theorem out_mk {P : Program} {w : World} {K : PySem.W.Frag} {mg : Str → Option Value} {base : Heap} {x xe a y e : Str} {st : Stmt} {g : Addr} {fd : FuncData} {k : Nat} {CS : Addr} (F : L2.Fun K x x st g fd) (S : FnScope [a, y, e] [a] (defScope st)) (bi : Binds K fd [a] []) (hm : mg x = some (.ref g))
    (hla : (defScope st).names.lookup a = some .local) (hle : (defScope st).names.lookup e = some .local) (hlx : (defScope st).names.lookup xe = some .globalImplicit) (da : (a == ("__debug__" : Str)) = false := by decide) (ca : (a == ("__classdict__" : Str)) = false := by decide) (de : (e == ("__debug__" : Str)) = false := by decide) (ce : (e == ("__classdict__" : Str)) = false := by decide) (dx : (xe == ("__debug__" : Str)) = false := by decide)
    (hb : ∀ (cdv : Value) (A : Around) (outer : List Env) (s : Shared) (H : Hp) (TA : WX → TE) (TR : Addr → Value → Option Addr → TE),
      (∀ (W : WX) (pn : List (Addr × Obj)) (xn : Value → Shared → Prop) (p1 p2 : Pos), L2N.Takes ((cxOf CX0 P w K mg base [a, y, e] x (defScope st) g cdv A outer s H E0).nox.tr pn xn) W → PE ((cxOf CX0 P w K mg base [a, y, e] x (defScope st) g cdv A outer s H E0).nox.tr pn xn) (.Call (.Name a p1) [] [] p2) (TA W)) →
      (∀ (ao : Addr) (oe : Obj) (cls : Value) (d : Option Addr) (pn : List (Addr × Obj)) (p p2 pos : Pos), L2N.Zn cls d oe → (∃ vs, oe.data = .fields vs) → PE ((cxOf CX0 P w K mg base [a, y, e] x (defScope st) g cdv A outer s H E0).nox.suite ao ((ao, oe) :: pn)) (.Call (.Name xe p) [.Name e p2] [] pos) (TR ao cls d)) →
      PSs (cxOf CX0 P w K mg base [a, y, e] x (defScope st) g cdv A outer s H E0).nox (defBody st) (outT K CS TA TR)) : OutFn P w K mg base k x xe CS := by
  refine ⟨g, fd, a, hm, F.kp, bi, fun A outer s1 H1 args fs H0 h0 O f r Q hr e0 u0 stk sm ot act hE hbt q => ?_⟩
  obtain ⟨oc, od, kV, doc, pm, an, cdv, ct, osl, rfl, lk, hcd⟩ := F.ex
  refine LamX.run_ofS (CX := CX0) (E := E0) (us := [.ref f]) (vs := [.ref f]) (ps := [a]) (N := [a, y, e]) lk hcd S hr e0 hbt (.cons rfl .nil) rfl fun hr' => ?_
  have far : Far fs H0 h0 (cxOf CX0 P w K mg base [a, y, e] x (defScope st) g cdv A outer s1 H1 E0).nox := (far_un u0 stk).nox
  refine ⟨_, (hb cdv A outer s1 H1 (tActP mg H0 O f r 0) (tErrP P w K mg base k xe 2) (fun W pn xn p1 p2 tk => pe_actP (i := 0) far.tr act tk hr' rfl (.inl hla) da ca) fun ao oe cls d pn p p2 pos hz hf => pe_err (i := 2) hz hf hr' (Nat.le_refl k) hlx rfl (.inl hle) dx de ce).nox, ?_⟩
  have l1 : 1 ≤ sizeLine := by decide
  have l2 : 2 ≤ sizeLine := by decide
  refine ⟨l1, fun p hp => ?_⟩
  have s0 : Same H1 (upd H1 p (.tup [.str "nothing"])) := same_upd hp
  refine ⟨rfl, sm.trans s0, ?_⟩
  generalize upd H1 p (.tup [.str "nothing"]) = H2 at s0
  cases r with
  | ok d =>
    refine fun v H3 s3 rv => ⟨l2, fun p3 hp3 => ⟨_, rfl, ?_⟩⟩
    exact q _ _ ((s0.trans s3).trans (same_upd hp3)) (rep_tup hp3 (.cons (by simp only [Rep]) (.cons rv .nil)))
  | er C =>
    intro aC H3 hC s3
    obtain ⟨hx, ef⟩ := (hE C rfl).ok aC hC
    refine ⟨true, hx, fun _ ae na => ?_, fun z => nomatch z⟩
    refine ⟨aC, C, rfl, rfl, ef, rfl, fun H4 s4 => ⟨l1, fun p4 hp4 => ⟨_, rfl, ?_⟩⟩⟩
    exact q _ _ (((s0.trans s3).trans s4).trans (same_upd hp4)) (rep_tup hp4 (.cons (by simp only [Rep]) .nil))
end DL

set_option maxHeartbeats 2000000
/-! all_raise: whether each call of a list raises the named error -/
namespace DL
open PySem PySem.Spec
open PyProof.Rows hiding St
open L2 HotX
open L2H hiding St
/-- what is asked of a call of _law_outcome -/
def tOutP (P : Program) (w : World) (K : PySem.W.Frag) (mg : Str → Option Value) (base : Heap) (k : Nat) (xe : Str) (CS : Addr) (fs : List Addr) (H0 : Hp) (h0 : Heap) (O : Addr → Prop) (i : Nat) : TE := fun σ H Q =>
  ∃ f r, σ[i]? = some (some (.ref f)) ∧ ActP P w K mg base k fs H0 h0 O f r ∧ (∀ C, r = .er C → ErrOk P w K mg base k xe CS C) ∧ Same H0 H ∧ Otr O H0 ∧ ∀ v H', Same H H' → Rep O H' (outD r) v → Q v H'
theorem pe_out {Z : Cx} {fs : List Addr} {H0 : Hp} {h0 : Heap} {O : Addr → Prop} {CS : Addr} {i k : Nat} {x xe y : Str} {p p2 pos : Pos} (G : OutFn Z.prog Z.w Z.K Z.mg Z.base k x xe CS) (far : Far fs H0 h0 Z) (hr : Room (k + 1) Z.A)
    (hg : Gl Z x) (hN : Z.N[i]? = some y) (hv : Vis Z.env.scope y) (hdb : (x == ("__debug__" : Str)) = false := by decide) (hdy : (y == ("__debug__" : Str)) = false := by decide) (hcy : (y == ("__classdict__" : Str)) = false := by decide)
    (he : starEach [Expr.Name y p2] Z.env = (false, eval (.Name y p2) Z.env) :: starEach [] Z.env := by rfl) (hpl : (backTo pos (starEach [] Z.env)).any (·.1) = false := by rfl) :
    PE Z (.Call (.Name x p) [.Name y p2] [] pos) (tOutP Z.prog Z.w Z.K Z.mg Z.base k xe CS fs H0 h0 O i) := by
  refine ⟨fun pins s σ H Q I ⟨f, r, hs, act, hE, sm, ot, q⟩ => ?_⟩
  obtain ⟨g, fd, a, hm, kp, bi, run⟩ := G.ex
  refine wpAny_Call_Name_kw (ld_glob I hg hm ?_ hdb)
  have hp : PA Z [.Name y p2] (tCons (tVar i) tNil) := pa_cons (pv i hN hv hdy hcy) pa_nil
  refine PySem.W.callWith_K (h₀ := Z.base) I.ok.mod.kin kp (thn (hp.run pos pins s σ H (fun vs H1 => vs = [V.ref f] ∧ H1 = H) I ⟨_, hs, rfl, rfl⟩) fun us s1 ⟨vs, H1, I1, rr, ev, eH⟩ => ⟨I1.kIn, ?_⟩) he hpl
  subst ev eH
  cases rr with
  | cons rf rn =>
    cases rn
    cases rf
    have b := bi s1 [.ref f] I1.kIn rfl
    rw [List.append_nil] at b
    refine wpAny_call (codeAny_mono (run Z.A Z.stack s1 H1 ⟨[.ref f], []⟩ fs H0 h0 O f r Q hr I1.env0 (far.at I1) far.stk sm ot act hE b q) fun r s' hq => ?_)
    cases r with
    | error e => exact False.elim hq
    | ok fl =>
      cases fl with
      | ret u => exact I1.after hq
      | next => exact False.elim hq
      | brk => exact False.elim hq
      | cont => exact False.elim hq
structure AllFn (P : Program) (w : World) (K : PySem.W.Frag) (mg : Str → Option Value) (base : Heap) (k : Nat) (x xe : Str) (CS : Addr) : Prop where
  ex : ∃ g fd a b, mg x = some (.ref g) ∧ PySem.W.keepIn K (.ref g) = true ∧ Binds K fd [a, b] [] ∧ ∀ (A : Around) (outer : List Env) (s1 : Shared) (H1 : Hp) (args : Args) (us : List Value) (fs : List Addr) (H0 : Hp) (h0 : Heap) (O : Addr → Prop) (l : Addr) (fa : List Addr) (wd : Str) (Q : VK), Room (k + 2) A → Env0 P w K mg base A outer s1 H1 →
    Un fs [] H0 H1 h0 s1.heap → (∀ b o, h0.get? b = some o → b ∈ frs outer → b ∈ fs) → Same H0 H1 → Otr O H0 → (∀ f ∈ fa, ActP P w K mg base k fs H0 h0 O f (.er wd)) → ErrOk P w K mg base k xe CS wd → neD (.tuple [.str wd]) (.tuple [.str wd]) = some (.bool false) → H1 l = some (.lst (fa.map V.ref)) → Vals [.ref l, .str wd] us → BindsTo s1 fd args ([a, b].zip us) →
    (∀ H', Same H1 H' → Q (.bl true) H') → codeAny (model P w) A (.call (.ref g) args) (CR CX0 outer P w H1 s1 Q E0) s1
def allT (K : PySem.W.Frag) (TO : TE) : TS := tRet (tOp (rEqD K) (tLc (iList K (tVar 0)) (gName 2) (tTest (tOp (rNeD K) TO (tTup (tCons (tVar 1) tNil)))) (tC (.int 1)) [2]) (tLst tNil))
theorem allfn_mk {P : Program} {w : World} {K : PySem.W.Frag} {mg : Str → Option Value} {base : Heap} {x xo xe a b c : Str} {st : Stmt} {g : Addr} {fd : FuncData} {k : Nat} {CS : Addr} (G : OutFn P w K mg base k xo xe CS) (F : L2.Fun K x x st g fd) (S : FnScope [a, b, c] [a, b] (defScope st)) (bi : Binds K fd [a, b] []) (hm : mg x = some (.ref g))
    (do_ : (xo == ("__debug__" : Str)) = false := by decide) (dc : (c == ("__debug__" : Str)) = false := by decide) (cc : (c == ("__classdict__" : Str)) = false := by decide)
    (hb : ∀ (cdv : Value) (A : Around) (outer : List Env) (s : Shared) (H : Hp) (TO : TE), Room (k + 1) (A.deeper (envOfC x (defScope st) s.heap.objs.size g cdv)) →
      (∀ (s' : Shared) (H' : Hp) (scope : Scope) (ad : Addr) (cl : List (Str × Addr)) (fp : List Addr) (p p2 pos : Pos), (∃ pins σ, L2.Inv (cxOf CX0 P w K mg base [a, b, c] x (defScope st) g cdv A outer s H E0).nox pins σ H' s' ∧ ∀ d ∈ fp, FpOk (cxOf CX0 P w K mg base [a, b, c] x (defScope st) g cdv A outer s H E0).nox pins H' d) →
        Gl (blkG (cxOf CX0 P w K mg base [a, b, c] x (defScope st) g cdv A outer s H E0).nox s' H' scope (compEnvC scope cl ad (cxOf CX0 P w K mg base [a, b, c] x (defScope st) g cdv A outer s H E0).nox.env) fp []) xo →
        Vis (compEnvC scope cl ad (cxOf CX0 P w K mg base [a, b, c] x (defScope st) g cdv A outer s H E0).nox.env).scope c →
        PE (blkG (cxOf CX0 P w K mg base [a, b, c] x (defScope st) g cdv A outer s H E0).nox s' H' scope (compEnvC scope cl ad (cxOf CX0 P w K mg base [a, b, c] x (defScope st) g cdv A outer s H E0).nox.env) fp []) (.Call (.Name xo p) [.Name c p2] [] pos) TO) →
      PSs (cxOf CX0 P w K mg base [a, b, c] x (defScope st) g cdv A outer s H E0).nox (defBody st) (allT K TO)) : AllFn P w K mg base k x xe CS := by
  refine ⟨g, fd, a, b, hm, F.kp, bi, fun A outer s1 H1 args us fs H0 h0 O l fa wd Q hr e0 u0 stk sm ot act hE hne hl rv hbt q => ?_⟩
  obtain ⟨oc, od, kV, doc, pm, an, cdv, ct, osl, rfl, lk, hcd⟩ := F.ex
  refine LamX.run_ofS (CX := CX0) (E := E0) (us := us) (vs := [.ref l, .str wd]) (ps := [a, b]) (N := [a, b, c]) lk hcd S hr e0 hbt rv rfl fun hr' => ?_
  have far : Far fs H0 h0 (cxOf CX0 P w K mg base [a, b, c] x (defScope st) g cdv A outer s1 H1 E0).nox := (far_un u0 stk).nox
  refine ⟨_, (hb cdv A outer s1 H1 (tOutP P w K mg base k xe CS fs H0 h0 O 2) hr' fun s' H' scope ad cl fp p p2 pos ⟨pins, σ, I, hf⟩ hg hv => pe_out (i := 2) G (far.blk I hf) hr' hg rfl hv do_ dc cc).nox, ?_⟩
  refine ⟨_, rfl, l, rfl, ⟨_, .of hl⟩, fun Dl hD => ?_⟩
  have sD : Same H1 (upd H1 Dl (.lst [])) := same_upd hD
  refine L2.lc_list (xs := fa.map V.ref) (fun i H => H Dl = some (.lst []) ∧ Same H1 H) ⟨upd_same, sD⟩ (fun i H _ h => .of (h.2 l _ hl)) (fun i v H hv ⟨h1, h2⟩ => ?_) fun H ⟨h1, h2⟩ => ?_
  · rw [List.getElem?_map] at hv
    cases hf : fa[i]? with
    | none => rw [hf] at hv; cases hv
    | some f =>
      rw [hf] at hv
      cases hv
      refine ⟨rfl, f, .er wd, rfl, act f (List.mem_of_getElem? hf), fun C e => by cases e; exact hE, sm.trans h2, ot, fun v H2 s2 r2 => ?_⟩
      have l1 : 1 ≤ sizeLine := by decide
      refine ⟨_, rfl, l1, fun p hp => ?_⟩
      have ot2 : Otr O (upd H2 p (.tup [.str wd])) := fun b h => ((sm.trans h2).trans (s2.trans (same_upd hp))).ne (ot b h)
      have rp : Rep O (upd H2 p (.tup [V.str wd])) (.tuple [.str wd]) (.ref p) := rep_tup hp (.cons (by simp only [Rep]) .nil)
      refine o_ne O _ _ _ _ v (.ref p) _ ot2 hne (r2.same (same_upd hp)) rp fun z H3 s3 r3 => ⟨false, rep_bool.mp r3, ?_⟩
      simp only [Bool.false_eq_true, if_false]
      have s23 : Same H H3 := (s2.trans (same_upd hp)).trans s3
      exact ⟨s23 Dl _ h1, h2.trans s23⟩
  · refine ⟨by show 0 ≤ sizeLine; decide, fun p hp => ?_⟩
    have hD2 : upd H p (.lst []) Dl = some (.lst []) := by rw [upd_ne (ne_of_none h1 hp)]; exact h1
    exact ⟨.list [], .list [], .lst (.of hD2) .nil, .lst (.of upd_same) .nil, by decide +kernel, by decide +kernel, by
      have e : PyData.eqv (.list []) (.list []) = true := by decide +kernel
      rw [e]
      exact q _ (h2.trans (same_upd hp))⟩
end DL

set_option maxHeartbeats 2000000
/-! lambdas in the data layer -/
namespace DL
open PySem PySem.Spec
open PyProof.Rows hiding St
open L2
def TabAt (H : Hp) (P : Addr) : Prop := ∃ ps, H P = some (.tbl ps) ∧ TabQ H ps
theorem Good.tab {B : Base} {O : Addr → Prop} {σ : L2.St} {H : Hp} {ρ : Rho} {P : Addr} (g : Good B O σ H ρ) (h : TabAt B.H0 P) : TabAt H P := by
  obtain ⟨ps, e, q⟩ := h
  obtain ⟨ps', e', t⟩ := g.frame.tb.tbl P ps e
  exact ⟨ps', e', t q⟩
abbrev LamD := Arguments × Expr × Scope
def lamF (X : Cx) (ls : List LamD) : Nat → Addr → Addr → HO := fun k f c' => match ls[k]? with
  | some (pa, bo, sc) => LamO (X.env.qual ++ "<lambda>") pa bo sc (cloFrom X.env.cells sc.names []) f c'
  | none => .lst []
/-- X is the context of a def that makes lambdas ls; its table stands at P -/
structure Mkr (X : Cx) (B : Base) (ls : List LamD) (c P : Addr) : Prop where
  tb : LamX.TabB X.base X.mg c P
  code : X.env.code = .ref c
  tab : TabAt B.H0 P
  q : B.lq = X.env.qual ++ "<lambda>"
  lam : B.lam = lamF X ls
/-- the lambda n means G -/
structure LamK (X : Cx) (B : Base) (ls : List LamD) (j n : Nat) (G : Rho → Option Res) : Prop where
  ex : ∃ pa bo sc, ls[n]? = some (pa, bo, sc) ∧ LamX.LamS X.env.scope sc ∧ (∀ (q : Str) (cl : List (Str × Addr)) (pm cv ctv : Value), bindArgs (PySem.W.kla_fn "<lambda>" q pa bo sc cl pm cv ctv) ⟨[], []⟩ = pure []) ∧
    ∀ (A : Around) (outer : List Env) (s : Shared) (H : Hp) (E : XK) (f c' : Addr), Room j (A.deeper (LamX.lamEnv X sc s.heap.objs.size f c')) → DXE (lamCxN X A outer s H E sc f c') B (WD E) bo G
structure DLE (X : Cx) (B : Base) (e : Expr) (h : Rho → Option (List Nat)) : Prop where
  pe : PE X e (fun σ H Q => ∃ O ρ ks, Good B O σ H ρ ∧ h ρ = some ks ∧ ∀ a fs H', Same H H' → ¬ O a → H' a = some (.lst (fs.map V.ref)) → LamAll B H' fs ks → Q (.ref a) H')
def tLA (B : Base) (ks : List Nat) : TA := fun σ H Q => ∃ O ρ, Good B O σ H ρ ∧ ∀ vs fs H', Same H H' → vs = fs.map V.ref → LamAll B H' fs ks → Q vs H'
structure DLA (X : Cx) (B : Base) (es : List Expr) (ks : List Nat) : Prop where
  pa : PA X es (tLA B ks)
@[simp] def lamsL (ks : List Nat) : Rho → Option (List Nat) := fun _ => some ks
@[simp] def lamsV (i : Nat) : Rho → Option (List Nat) := fun ρ => match ρ[i]? with
  | some (.lam ks) => some ks
  | _ => none
@[simp] def lamsC (g h : Rho → Option (List Nat)) : Rho → Option (List Nat) := fun ρ => (g ρ).bind fun ks => (h ρ).bind fun js => if ks.length + js.length ≤ 1000 then some (ks ++ js) else none
@[simp] def setL (i : Nat) (h : Rho → Option (List Nat)) : Rho → Option Out := fun ρ => (h ρ).bind fun ks => some (.nx (ρ.set i (.lam ks)))
/-- every lambda of ks raises the error wd -/
def AllEr (G : Nat → Rho → Option Res) (N : Nat) (wd : Str) (ρ : Rho) (ks : List Nat) : Prop := ∀ n ∈ ks, n < N ∧ G n ρ = some (.er wd)
open Classical in
noncomputable def arD (G : Nat → Rho → Option Res) (N : Nat) (wd : Str) (h : Rho → Option (List Nat)) : Rho → Option D := fun ρ => (h ρ).bind fun ks => if AllEr G N wd ρ ks then some (.bool true) else none
theorem arD_ok {G : Nat → Rho → Option Res} {N : Nat} {wd : Str} {h : Rho → Option (List Nat)} {ρ : Rho} {ks : List Nat} (e : h ρ = some ks) (a : AllEr G N wd ρ ks) : arD G N wd h ρ = some (.bool true) := by
  unfold arD
  rw [e, Option.bind_some, if_pos a]
@[simp] def outL (g : Rho → Option Res) (ws : List Str) : Rho → Option D := fun ρ => (g ρ).bind fun r => match r with
  | .ok d => some (.tuple [.str "value", d])
  | .er C => if C ∈ ws then some (.tuple [.str C]) else none
theorem LamAll.length {B : Base} {H : Hp} {fs : List Addr} {ks : List Nat} (h : LamAll B H fs ks) : fs.length = ks.length := Paired.length h
theorem LamAll.same {B : Base} {H H' : Hp} {fs : List Addr} {ks : List Nat} (h : LamAll B H fs ks) (s : Same H H') : LamAll B H' fs ks := h.keep fun b φ e => s b _ e
theorem paired_append {α β : Type} {R : α → β → Prop} : ∀ {a : List α} {b : List β} {c : List α} {d : List β}, Paired R a b → Paired R c d → Paired R (a ++ c) (b ++ d)
  | _, _, _, _, .nil, h => h
  | _, _, _, _, .cons r t, h => .cons r (paired_append t h)
theorem paired_mem {α β : Type} {R : α → β → Prop} {x : α} : ∀ {a : List α} {b : List β}, Paired R a b → x ∈ a → ∃ y, y ∈ b ∧ R x y
  | [], _, _, h => nomatch h
  | a :: as, bs, h0, h => by
    cases h0 with
    | cons r t =>
      rcases List.mem_cons.mp h with e | e
      · exact ⟨_, List.mem_cons_self, by rw [e]; exact r⟩
      · obtain ⟨y, h1, h2⟩ := paired_mem t e
        exact ⟨y, List.mem_cons_of_mem _ h1, h2⟩
section
variable {X : Cx} {B : Base} {m : Md} {ls : List LamD} {c P : Addr} {es : List Expr} {ks : List Nat} {e e2 : Expr} {g h : Rho → Option (List Nat)} {p pos : Pos}
theorem Good.setLam {O : Addr → Prop} {σ : L2.St} {H : Hp} {ρ : Rho} (gd : Good B O σ H ρ) {i : Nat} {a : Addr} {fs : List Addr} (no : ¬ O a) (ha : H a = some (.lst (fs.map V.ref))) (hl : LamAll B H fs ks) : Good B O (σ.set i (some (.ref a))) H (ρ.set i (.lam ks)) ∧ ∀ b, Wof (σ.set i (some (.ref a))) (ρ.set i (.lam ks)) b → Wof σ ρ b := by
  have hw : ∀ (j : Nat) s, (ρ.set i (.lam ks))[j]? = some s → isOwn s = true → i ≠ j ∧ ρ[j]? = some s := fun j s e q => by
    by_cases hj : i = j
    · subst hj
      by_cases hl : i < ρ.length
      · rw [List.getElem?_set_self hl] at e; cases e; cases q
      · rw [List.getElem?_eq_none (by simpa using hl)] at e; cases e
    · exact ⟨hj, by rw [get_set_ne hj] at e; exact e⟩
  refine ⟨⟨by simp [gd.len], gd.frame, gd.o0, gd.r0, gd.osub, gd.otrk, gd.h0, fun j s e => ?_, fun j k s t b e1 e2 q1 q2 e3 e4 => ?_⟩, fun b ⟨j, s, e, q, e3⟩ => ?_⟩
  · by_cases hj : i = j
    · subst hj
      by_cases hl2 : i < ρ.length
      · rw [List.getElem?_set_self hl2] at e
        cases e
        rw [List.getElem?_set_self (by rw [gd.len]; exact hl2)]
        exact ⟨a, fs, rfl, no, ha, hl⟩
      · rw [List.getElem?_eq_none (by simpa using hl2)] at e; cases e
    · rw [get_set_ne hj] at e
      rw [get_set_ne hj]
      exact gd.slots j s e
  · obtain ⟨h1, k1⟩ := hw j s e1 q1
    obtain ⟨h2, k2⟩ := hw k t e2 q2
    rw [get_set_ne h1] at e3
    rw [get_set_ne h2] at e4
    exact gd.sep j k s t b k1 k2 q1 q2 e3 e4
  · obtain ⟨h1, k1⟩ := hw j s e q
    rw [get_set_ne h1] at e3
    exact ⟨j, s, k1, q, e3⟩
/-! ### lists of lambdas -/
theorem pe_lam {n : Nat} {pa : Arguments} {bo : Expr} {sc : Scope} {lpos : Pos} (M : Mkr X B ls c P) (hn : ls[n]? = some (pa, bo, sc)) (hq : qn lpos.line = X.env.qual ++ "<lambda>") (L : LamX.LamS X.env.scope sc) (hdef : defaultsOf pa X.env = ([], []) := by rfl) :
    PE X (.Lambda pa bo sc lpos) (fun σ H Q => (∃ O ρ, Good B O σ H ρ) ∧ ∀ f H1, Same H H1 → LamAll B H1 [f] [n] → Q (.ref f) H1) := by
  refine ⟨fun pins s σ H Q I ⟨⟨O, ρ, gd⟩, q⟩ => ?_⟩
  refine lam_make I M.tb M.code (gd.tab M.tab) hq hdef L fun f c' H1 s' I1 sm _ hf hc => ⟨.ref f, H1, I1, rfl, q f H1 sm (.cons ⟨c', ?_, ?_, ?_⟩ .nil)⟩
  · rw [M.lam]
    unfold lamF
    rw [hn]
    exact hf
  · rw [M.lam]
    unfold lamF
    rw [hn]
    exact ⟨_, rfl⟩
  · rw [M.q]
    exact hc
theorem dla_nil : DLA X B [] [] := ⟨pa_nil.imp fun σ H Q ⟨O, ρ, gd, q⟩ => q [] [] H (Same.refl H) rfl .nil⟩
theorem dla_cons {n : Nat} {pa : Arguments} {bo : Expr} {sc : Scope} {lpos : Pos} (M : Mkr X B ls c P) (hn : ls[n]? = some (pa, bo, sc)) (hq : qn lpos.line = X.env.qual ++ "<lambda>") (L : LamX.LamS X.env.scope sc) (h : DLA X B es ks) (hdef : defaultsOf pa X.env = ([], []) := by rfl)
    (hst : starEach (.Lambda pa bo sc lpos :: es) X.env = (false, eval (.Lambda pa bo sc lpos) X.env) :: starEach es X.env := by rfl) : DLA X B (.Lambda pa bo sc lpos :: es) (n :: ks) :=
  ⟨(pa_cons (pe_lam M hn hq L hdef) h.pa hst).imp fun σ H Q ⟨O, ρ, gd, q⟩ => ⟨⟨O, ρ, gd⟩, fun f H1 s1 l1 => ⟨O, ρ, gd.same s1, fun vs fs H2 s2 ev l2 => q _ (f :: fs) H2 (s1.trans s2) (by rw [ev]; rfl) (.cons (by
    cases l1.same s2 with
    | cons r _ => exact r) l2)⟩⟩⟩
theorem dle_lst (h : DLA X B es ks) (hk : ks.length ≤ 1000 := by decide) : DLE X B (.List es pos) (lamsL ks) :=
  ⟨(pe_lst h.pa).imp fun σ H Q ⟨O, ρ, ks', gd, e, q⟩ => by
    cases e
    refine ⟨O, ρ, gd, fun vs fs H1 s1 ev la => ⟨?_, fun a ha => ?_⟩⟩
    · rw [ev, List.length_map, la.length, sizeLine_eq]
      omega
    · subst ev
      exact q a fs _ (s1.trans (same_upd ha)) (fun z => (gd.same s1).otrk a z ha) upd_same (la.same (same_upd ha))⟩
theorem dle_var (i : Nat) {x : Str} (hN : X.N[i]? = some x := by rfl) (hv : Vis X.env.scope x := by first | exact Or.inl rfl | exact Or.inr (Or.inl rfl) | exact Or.inr (Or.inr rfl)) (hd : (x == ("__debug__" : Str)) = false := by decide)
    (hcd : (x == ("__classdict__" : Str)) = false := by decide) : DLE X B (.Name x pos) (lamsV i) := ⟨(pv i hN hv hd hcd).imp fun σ H Q ⟨O, ρ, ks, gd, e, q⟩ => by
  unfold lamsV at e
  split at e
  · next ks' e1 =>
    cases e
    obtain ⟨a, fs, e2, no, ha, hl⟩ := gd.slots _ _ e1
    exact ⟨_, e2, q a fs H (Same.refl H) no ha hl⟩
  · cases e⟩
theorem dle_cat (h1 : DLE X B e g) (h2 : DLE X B e2 h) : DLE X B (.BinOp e .Add e2 pos) (lamsC g h) :=
  ⟨(pe_op op_cat h1.pe h2.pe).imp fun σ H Q ⟨O, ρ, ks, gd, e, q⟩ => by
    obtain ⟨k1, e1, e'⟩ := bind_some e
    obtain ⟨k2, e2, e3⟩ := bind_some e'
    split at e3
    · next hk =>
      cases e3
      refine ⟨O, ρ, k1, gd, e1, fun a fs H1 s1 no ha la => ⟨O, ρ, k2, gd.same s1, e2, fun b fs2 H2 s2 no2 hb lb => ?_⟩⟩
      refine ⟨a, b, _, _, rfl, rfl, s2 a _ ha, hb, ?_, fun p hp => ?_⟩
      · rw [List.length_map, List.length_map, la.length, lb.length, sizeLine_eq]
        omega
      · rw [← List.map_append]
        have s3 := (s1.trans s2).trans (same_upd (o := .lst ((fs ++ fs2).map V.ref)) hp)
        exact q p (fs ++ fs2) _ s3 (fun z => (gd.same (s1.trans s2)).otrk p z hp) upd_same (paired_append (la.same (s2.trans (same_upd hp))) (lb.same (same_upd hp)))
    · cases e3⟩
theorem ds_lset {i : Nat} {x : Str} {p' : Pos} (hN : X.N.Nodup) (hi : X.N[i]? = some x) (hx : Loc X.env.scope x) (he : DLE X B e h) (hs : swapsWith e (some (.Name x p')) pos.line X.env = pure false := by rfl) (hf : X.fn x = true ∨ X.env.scope.names.lookup x = some .local := by first | exact .inl rfl | exact .inr rfl | assumption) :
    DS X B (.Assign [.Name x p'] e pos) (setL i h) := ⟨(ps_set hN hi hx he.pe hs hf).imp fun E σ H ⟨O, ρ, r, gd, e, q⟩ => by
  obtain ⟨ks, e1, e2⟩ := bind_some e
  cases e2
  refine ⟨O, ρ, ks, gd, e1, fun a fs H1 s1 no ha la => ?_⟩
  obtain ⟨g2, w2⟩ := (gd.same s1).setLam (i := i) no ha la
  exact q _ H1 O ⟨.of s1, fun _ h => .inl h, fun _ h => h, fun b h => .inl (w2 b h)⟩ g2⟩
/-! ### what is made of them -/
theorem act_of {pins : List (Addr × Obj)} {σ : L2.St} {H : Hp} {s : Shared} {O : Addr → Prop} {ρ : Rho} {j k n : Nat} {G : Rho → Option Res} {r : Res} {f c' : Addr} (M : Mkr X B ls c P) (hL : LamK X B ls j n G) (hj : j + 1 ≤ k) (I : L2.Inv X pins σ H s) (gd : Good B O σ H ρ)
    (h1 : H f = some (B.lam n f c')) (h2 : H c' = some (LamX.CodeO c' B.lq)) (hG : G ρ = some r) : ActP X.prog X.w X.K X.mg X.base k (frs X.stack) H s.heap O f r := by
  obtain ⟨pa, bo, sc, hn, L, hbind, hbody⟩ := hL.ex
  refine ⟨fun A outer s1 HZ Q E hr e0 un sm hR => ?_⟩
  refine lam_act (k := j) (tb := fun E => tXE X.mg B (WD E) G) I L ?_ (by rw [← M.q]; exact h2) (hbind _) (fun A outer s1 H1 E hr => (hbody A outer s1 H1 E f c' hr).pe) (hr.mono hj) e0 un sm ⟨O, ρ, r, gd.same sm, hG, hR⟩
  rw [M.lam] at h1
  unfold lamF at h1
  rw [hn] at h1
  exact h1
theorem dp_all {x xe wd : Str} {CS : Addr} {k j jj N : Nat} {jc} {p2 : Pos} {G : Nat → Rho → Option Res} (A : AllFn X.prog X.w X.K X.mg X.base k x xe CS) (M : Mkr X B ls c P) (hr : Room jj X.A) (hk : k + 2 ≤ jj) (hj : j + 1 ≤ k) (he : DLE X B e h) (hL : ∀ n, n < N → LamK X B ls j n (G n)) (hE : ErrOk X.prog X.w X.K X.mg X.base k xe CS wd)
    (hne : neD (.tuple [.str wd]) (.tuple [.str wd]) = some (.bool false)) (hg : Gl X x := by rfl) (hdb : (x == ("__debug__" : Str)) = false := by decide) (hst : starEach (e :: [.Constant (.str wd) jc p2]) X.env = (false, eval e X.env) :: starEach [.Constant (.str wd) jc p2] X.env := by rfl)
    (hpl : (backTo pos (starEach [.Constant (.str wd) jc p2] X.env)).any (·.1) = false := by rfl) : DP X B m (.Call (.Name x p) [e, .Constant (.str wd) jc p2] [] pos) (arD G N wd h) := by
  refine ⟨⟨fun pins s σ H Q I ⟨O, ρ, d, gd, e1, q⟩ => ?_⟩⟩
  unfold arD at e1
  obtain ⟨ks, e2, e3⟩ := bind_some e1
  split at e3
  · next hA =>
    cases e3
    obtain ⟨gf, fd, a, b, hm, kp, bi, run⟩ := A.ex
    refine wpAny_Call_Name_kw (ld_glob I hg hm ?_ hdb)
    have hp := pa_cons he.pe (pa_cons (pe_str (X := X) (x := wd) (j := jc) (pos := p2)) pa_nil) hst
    refine PySem.W.callWith_K (h₀ := X.base) I.ok.mod.kin kp (thn (hp.run pos pins s σ H (fun vs H1 => ∃ l fa, vs = [V.ref l, V.str wd] ∧ Same H H1 ∧ H1 l = some (.lst (fa.map V.ref)) ∧ LamAll B H1 fa ks) I ⟨O, ρ, ks, gd, e2, fun l fa H1 s1 _ hl la => ⟨l, fa, rfl, s1, hl, la⟩⟩) fun us s1 ⟨vs, H1, I1, r, l, fa, ev, sm, hl, la⟩ => ⟨I1.kIn, ?_⟩) hst hpl
    subst ev
    have g1 := gd.same sm
    have bb := bi s1 us I1.kIn (by rw [List.append_nil, ← r.length]; rfl)
    rw [List.append_nil] at bb
    refine wpAny_call (codeAny_mono (run X.A X.stack s1 H1 ⟨us, []⟩ us (frs X.stack) H1 s1.heap O l fa wd Q (hr.mono hk) I1.env0 Un.refl (fun _ _ _ h => h) (Same.refl H1) g1.otrk (fun f hf => ?_) hE hne hl r bb fun H2 s2 => q _ H2 (sm.trans s2) (rep_bool.mpr rfl)) fun r s' hq => ?_)
    · obtain ⟨n, hn, c', h1, _, h3⟩ := paired_mem la hf
      obtain ⟨hN, hG⟩ := hA n hn
      exact act_of M (hL n hN) hj I1 g1 h1 h3 hG
    · cases r with
      | error e => exact False.elim hq
      | ok fl =>
        cases fl with
        | ret u => exact I1.after hq
        | next => exact False.elim hq
        | brk => exact False.elim hq
        | cont => exact False.elim hq
  · cases e3
theorem dp_outcome {x xe : Str} {CS : Addr} {k j jj n : Nat} {G : Rho → Option Res} {ws : List Str} {pa : Arguments} {bo : Expr} {sc : Scope} {lpos : Pos} (A : OutFn X.prog X.w X.K X.mg X.base k x xe CS) (M : Mkr X B ls c P) (hr : Room jj X.A) (hk : k + 1 ≤ jj) (hj : j + 1 ≤ k) (hn : ls[n]? = some (pa, bo, sc)) (hq : qn lpos.line = X.env.qual ++ "<lambda>") (L : LamX.LamS X.env.scope sc) (hL : LamK X B ls j n G)
    (hE : ∀ C ∈ ws, ErrOk X.prog X.w X.K X.mg X.base k xe CS C) (hg : Gl X x := by rfl) (hdb : (x == ("__debug__" : Str)) = false := by decide) (hdef : defaultsOf pa X.env = ([], []) := by rfl) (hst : starEach [.Lambda pa bo sc lpos] X.env = (false, eval (.Lambda pa bo sc lpos) X.env) :: starEach [] X.env := by rfl)
    (hpl : (backTo pos (starEach [] X.env)).any (·.1) = false := by rfl) : DP X B m (.Call (.Name x p) [.Lambda pa bo sc lpos] [] pos) (outL G ws) := by
  refine ⟨⟨fun pins s σ H Q I ⟨O, ρ, d, gd, e1, q⟩ => ?_⟩⟩
  obtain ⟨r, e2, e3⟩ := bind_some e1
  have ok : (∀ C, r = .er C → ErrOk X.prog X.w X.K X.mg X.base k xe CS C) ∧ d = outD r := by
    cases r with
    | ok d' => cases e3; exact ⟨fun C z => by (cases z), rfl⟩
    | er C =>
      have e4 : (if C ∈ ws then some (PyData.tuple [.str C]) else none) = some d := e3
      by_cases hC : C ∈ ws
      · rw [if_pos hC] at e4
        exact ⟨fun C' z => by (cases z; exact hE _ hC), (Option.some.inj e4).symm⟩
      · rw [if_neg hC] at e4
        cases e4
  obtain ⟨gf, fd, a, hm, kp, bi, run⟩ := A.ex
  refine wpAny_Call_Name_kw (ld_glob I hg hm ?_ hdb)
  have hp := pa_cons (pe_lam M hn hq L hdef) pa_nil hst
  refine PySem.W.callWith_K (h₀ := X.base) I.ok.mod.kin kp (thn (hp.run pos pins s σ H (fun vs H1 => ∃ f, vs = [V.ref f] ∧ Same H H1 ∧ LamAll B H1 [f] [n]) I ⟨⟨O, ρ, gd⟩, fun f H1 s1 la => ⟨f, rfl, s1, la⟩⟩) fun us s1 ⟨vs, H1, I1, rv, f, ev, sm, la⟩ => ⟨I1.kIn, ?_⟩) hst hpl
  subst ev
  have g1 := gd.same sm
  cases rv with
  | cons rf rn =>
    cases rn
    cases rf
    have bb := bi s1 [.ref f] I1.kIn rfl
    rw [List.append_nil] at bb
    refine wpAny_call (codeAny_mono (run X.A X.stack s1 H1 ⟨[.ref f], []⟩ (frs X.stack) H1 s1.heap O f r Q (hr.mono hk) I1.env0 Un.refl (fun _ _ _ h => h) (Same.refl H1) g1.otrk ?_ ok.1 bb fun v H2 s2 r2 => q v H2 (sm.trans s2) (by rw [ok.2]; exact r2.less (gd.mO m))) fun r s' hq => ?_)
    · cases la with
      | cons lr _ =>
        obtain ⟨c', h1, _, h3⟩ := lr
        exact act_of M hL hj I1 g1 h1 h3 e2
    · cases r with
      | error e => exact False.elim hq
      | ok fl =>
        cases fl with
        | ret u => exact I1.after hq
        | next => exact False.elim hq
        | brk => exact False.elim hq
        | cont => exact False.elim hq
end
/-! ### defs that make lambdas -/
theorem Good.lam0 {H0 H : Hp} {O0 R O : Addr → Prop} {σ : L2.St} {ρ : Rho} {L : Nat → Addr → Addr → HO} {q : Str} (g : Good ⟨H0, O0, R, nolam, Str.empty⟩ O σ H ρ) (n : ∀ (i : Nat) ks, ρ[i]? ≠ some (.lam ks)) : Good ⟨H0, O0, R, L, q⟩ O σ H ρ := by
  refine ⟨g.len, ⟨fun b o e n t => g.frame.keep b o e n t, g.frame.tb⟩, g.o0, g.r0, g.osub, g.otrk, g.h0, fun i s e => ?_, g.sep⟩
  have k := g.slots i s e
  cases s with
  | nil => trivial
  | dat d => exact k
  | own ds => exact k
  | bag ds => exact k
  | raw v => exact k
  | lam ks => exact absurd e (n i ks)
  | doc C a l rl sts => exact k
theorem start_nolam {tot : Nat} {ds : List D} (i : Nat) (ks : List Nat) : (startR tot ds)[i]? ≠ some (.lam ks) := fun e => by
  unfold startR at e
  by_cases h : i < ds.length
  · rw [List.getElem?_append_left (by simpa using h), List.getElem?_map, List.getElem?_eq_getElem h] at e
    cases e
  · rw [List.getElem?_append_right (by simpa using h), List.getElem?_replicate] at e
    split at e <;> cases e
/-- a def at f whose code object is c -/
structure FunC (K : PySem.W.Frag) (x : Str) (st : Stmt) (f c : Addr) (fd : FuncData) : Prop where
  ex : ∃ (oc : Value) (od : Option Addr) (kV doc pm : Value) (an : Option Addr) (ct : Value) (osl : Array (Option Value)),
    fd = PySem.W.fnOf x x (defArgs st) (defBody st) (defScope st) .none kV doc pm an (.ref c) ct ∧ K.lookup f = some ⟨oc, od, .func fd, osl⟩ ∧ PySem.W.codeIn K (.ref c) x = true
  kp : PySem.W.keepIn K (.ref f) = true
def spT (Pt : Addr) (F : List D → Option D) : Sp := fun vs H Q E => TabAt H Pt ∧ spP F vs H Q E
structure FnT (P : Program) (w : World) (K : PySem.W.Frag) (mg : Str → Option Value) (base : Heap) (k : Nat) (x : Str) (Pt : Addr) (F : List D → Option D) : Prop where
  ex : ∃ f fd ps, FnOk P w K mg base CX0 k f fd ps (spT Pt F) ∧ mg x = some (.ref f) ∧ PySem.W.keepIn K (.ref f) = true ∧ Binds K fd ps []
theorem fnt_mk {P : Program} {w : World} {K : PySem.W.Frag} {mg : Str → Option Value} {base : Heap} {x : Str} {st : Stmt} {f c Pt : Addr} {fd : FuncData} {N ps : List Str} {k n tot : Nat} {b : Rho → Option Out} (ls : List LamD) (F : FunC K x st f c fd) (S : FnScope N ps (defScope st)) (bi : Binds K fd ps []) (hm : mg x = some (.ref f)) (hN : N.length = tot) (hn : ps.length = n) (TB : LamX.TabB base mg c Pt)
    (hb : ∀ (B : Base) (A : Around) (outer : List PySem.Env) (s : Shared) (H : Hp) (E : XK), Room k (A.deeper (envOfC x (defScope st) s.heap.objs.size f (.ref c))) → Mkr (cxOf CX0 P w K mg base N x (defScope st) f (.ref c) A outer s H E).nox B ls c Pt → DSs (cxOf CX0 P w K mg base N x (defScope st) f (.ref c) A outer s H E).nox B (defBody st) b) :
    FnT P w K mg base (k + 1) x Pt (runF n tot b) := by
  have hpl : ps.length ≤ N.length := by have := congrArg List.length S.pre; rw [List.length_take] at this; omega
  have kp := F.kp
  obtain ⟨oc, od, kV, doc, pm, an, ct, osl, rfl, lk, hcd⟩ := F.ex
  refine ⟨f, _, ps, fn_of lk hcd S (fun vs H Q E h => ?_) (fun A outer s H vs Q E hr h => ?_), hm, kp, bi⟩
  · obtain ⟨_, O, ds, d, t, r, e, q⟩ := h
    unfold runF at e
    split at e
    · next hl => rw [← r.length, hl, hn]
    · cases e
  · obtain ⟨tab, O, ds, d, t, r, e, q⟩ := h
    unfold runF at e
    split at e
    · next hl =>
      obtain ⟨o, e1, e2⟩ := bind_some e
      refine ⟨_, (hb ⟨H, O, fun _ => False, lamF (cxOf CX0 P w K mg base N x (defScope st) f (.ref c) A outer s H E).nox ls, (cxOf CX0 P w K mg base N x (defScope st) f (.ref c) A outer s H E).nox.env.qual ++ "<lambda>"⟩ A outer s H E hr ⟨TB, rfl, tab, rfl, rfl⟩).ps.nox, O, startR tot ds, o, (good_start t r hN (by omega)).lam0 start_nolam, e1, ?_⟩
      cases o with
      | nx ρ' =>
        cases e2
        exact fun σ' H' O' s3 g3 => q _ H' (g3.frame.out fun _ z => z) (rep_none.mpr rfl)
      | rt z ρ' =>
        cases e2
        exact fun v σ' H' O' s3 g3 r3 => q v H' (g3.frame.out fun _ z => z) r3
    · cases e
theorem dp_callT {X : Cx} {B : Base} {m : Md} {e : Expr} {es : List Expr} {gs : Rho → Option (List D)} {p pos : Pos} {x : Str} {k j : Nat} {Pt : Addr} {F : List D → Option D} (hF : FnT X.prog X.w X.K X.mg X.base k x Pt F) (hT : TabAt B.H0 Pt) (hr : Room j X.A) (hk : k ≤ j) (ha : DPA X B m (e :: es) gs) (hg : Gl X x := by rfl) (hdb : (x == ("__debug__" : Str)) = false := by decide)
    (he : starEach (e :: es) X.env = (false, eval e X.env) :: starEach es X.env := by rfl) (hpl : (backTo pos (starEach es X.env)).any (·.1) = false := by rfl) : DP X B m (.Call (.Name x p) (e :: es) [] pos) (nD gs F) := by
  obtain ⟨fa, fd, ps, G, hm, kp, b⟩ := hF.ex
  refine dp_n (t := tCall (spT Pt F) [] E0) (fun h => pe_call G (hr.mono hk) hg hm kp b .nil pass0 h hdb he hpl) F (fun σ H Q O ρ ds z gd e1 e2 q => ⟨O, ρ, ds, gd, e1, fun vs H1 s1 r1 => ?_⟩) ha
  show spT Pt F (vs ++ []) H1 Q E0
  rw [List.append_nil]
  exact ⟨(gd.same s1).tab hT, _, ds, z, (gd.same s1).otr m, r1, e2, fun v H2 s2 r2 => q v H2 (s1.trans s2) r2⟩
end DL

set_option maxHeartbeats 2000000
/-! defs with one keyword-only parameter (its default None); parts of a text; the law's promise with tables -/
namespace DL
open PySem PySem.Spec
open PyProof.Rows hiding St
open L2
/-! ### parts of a text -/
def sFor : Stmt → List Stmt
  | .For _ _ b _ _ => b
  | _ => []
def sVal : Stmt → Expr
  | .Assign _ v _ => v
  | .Return (some e) _ => e
  | .If t _ _ _ => t
  | _ => .Name Str.empty ⟨0, 0, 0, 0⟩
def sSt (l : List Stmt) (i : Nat) : Stmt := l.getD i (.Pass ⟨0, 0, 0, 0⟩)
def eL : Expr → List Expr
  | .List es _ => es
  | .Call _ as _ _ => as
  | .BinOp a _ b _ => [a, b]
  | .UnaryOp _ a _ => [a]
  | .Compare a _ bs _ => a :: bs
  | _ => []
def eX (e : Expr) (i : Nat) : Expr := (eL e).getD i (.Name Str.empty ⟨0, 0, 0, 0⟩)
def lamD : Expr → LamD
  | .Lambda pa bo sc _ => (pa, bo, sc)
  | e => (default, e, default)
/-! ### keyword-only -/
structure FunK (K : PySem.W.Frag) (x : Str) (st : Stmt) (f : Addr) (kw : Str) (fd : FuncData) : Prop where
  ex : ∃ (oc : Value) (od : Option Addr) (kD : Addr) (doc pm : Value) (an : Option Addr) (cdv ct : Value) (osl : Array (Option Value)),
    fd = PySem.W.fnOf x x (defArgs st) (defBody st) (defScope st) .none (.ref kD) doc pm an cdv ct ∧ K.lookup f = some ⟨oc, od, .func fd, osl⟩ ∧ PySem.W.codeIn K cdv x = true ∧ PySem.W.nsIn K kD kw = some (some .none)
  kp : PySem.W.keepIn K (.ref f) = true
structure DefK (K : PySem.W.Frag) (mg : Str → Option Value) (x : Str) (st : Stmt) (ps : List Str) (kw : Str) : Prop where
  ex : ∃ f fd, FunK K x st f kw fd ∧ Binds K fd (ps ++ [kw]) [.none] ∧ (∀ (s : Shared) (us : List Value) (u : Value), us.length = ps.length → BindsTo s fd ⟨us, [(kw, u)]⟩ ((ps ++ [kw]).zip (us ++ [u]))) ∧ mg x = some (.ref f)
/-- what may be called with the keyword or without it: F gets all arguments -/
structure FnXK (P : Program) (w : World) (K : PySem.W.Frag) (mg : Str → Option Value) (base : Heap) (k : Nat) (x kw : Str) (F : List D → Option Res) : Prop where
  ex : ∃ f fd ps, FnOk P w K mg base (L2N.CX P w) k f fd (ps ++ [kw]) (spX mg F) ∧ mg x = some (.ref f) ∧ PySem.W.keepIn K (.ref f) = true ∧ Binds K fd (ps ++ [kw]) [.none] ∧ ∀ (s : Shared) (us : List Value) (u : Value), us.length = ps.length → BindsTo s fd ⟨us, [(kw, u)]⟩ ((ps ++ [kw]).zip (us ++ [u]))
theorem fnxk_mk {P : Program} {w : World} {K : PySem.W.Frag} {mg : Str → Option Value} {base : Heap} {x kw : Str} {st : Stmt} {f : Addr} {fd : FuncData} {N ps : List Str} {k n tot : Nat} {b : Rho → Option OutX} (F : FunK K x st f kw fd) (S : FnScope N (ps ++ [kw]) (defScope st)) (b0 : Binds K fd (ps ++ [kw]) [.none])
    (b1 : ∀ (s : Shared) (us : List Value) (u : Value), us.length = ps.length → BindsTo s fd ⟨us, [(kw, u)]⟩ ((ps ++ [kw]).zip (us ++ [u]))) (hm : mg x = some (.ref f)) (hN : N.length = tot) (hn : (ps ++ [kw]).length = n)
    (hb : ∀ (B : Base) (cdv : Value) (A : Around) (outer : List PySem.Env) (s : Shared) (H : Hp) (E : XK), Room k (A.deeper (envOfC x (defScope st) s.heap.objs.size f cdv)) → DSsX (cxOf (L2N.CX P w) P w K mg base N x (defScope st) f cdv A outer s H E) B (WD E) (defBody st) b) :
    FnXK P w K mg base (k + 1) x kw (runX n tot b) := by
  have hpl : (ps ++ [kw]).length ≤ N.length := by have := congrArg List.length S.pre; rw [List.length_take] at this; omega
  have kp := F.kp
  obtain ⟨oc, od, kD, doc, pm, an, cdv, ct, osl, rfl, lk, hcd, _⟩ := F.ex
  refine ⟨f, _, ps, fn_of lk hcd S (fun vs H Q E h => ?_) (fun A outer s H vs Q E hr h => ?_), hm, kp, b0, b1⟩
  · obtain ⟨O, ds, hl, r, _⟩ := runX_read (ps := ps ++ [kw]) hN (by omega) h
    rw [← r.length, hl, hn]
  · obtain ⟨O, ds, hl, r, t, q⟩ := runX_read (ps := ps ++ [kw]) hN (by omega) h
    exact ⟨_, (hb _ cdv A outer s H E hr).ps, q⟩
@[simp] def nX0 (gs : Rho → Option (List D)) (F : List D → Option Res) : Rho → Option Res := fun ρ => (gs ρ).bind fun ds => F (ds ++ [.none])
@[simp] def nX1 (gs : Rho → Option (List D)) (gk : Rho → Option D) (F : List D → Option Res) : Rho → Option Res := fun ρ => (gs ρ).bind fun ds => (gk ρ).bind fun d => F (ds ++ [d])
section
variable {X : Cx} {B : Base} {W : WX} {e ek : Expr} {es : List Expr} {gs : Rho → Option (List D)} {gk : Rho → Option D} {p pos kpos : Pos}
theorem run_fnXK {pins : List (Addr × Obj)} {σ : L2.St} {H : Hp} {s : Shared} {Q : VK} {args : Args} {us : List Value} {vs : List V} {k : Nat} {f : Addr} {fd : FuncData} {ps : List Str} {Fx : List D → Option Res} (F : FnOk X.prog X.w X.K X.mg X.base (L2N.CX X.prog X.w) k f fd ps (spX X.mg Fx)) (hr : Room k X.A) (tk : L2N.Takes X W)
    (I : L2.Inv X pins σ H s) (hb : BindsTo s fd args (ps.zip us)) (r : Vals vs us) (h : spX X.mg Fx vs H Q (WE W σ)) : codeAny (model X.prog X.w) X.A (.call (.ref f) args) (fun r s' => match r with
      | .ok (.ret u) => EP X pins σ Q u s'
      | .ok _ => False
      | .error e => X.xe e s') s := by
  refine codeAny_mono (F.run X.A X.stack s H args us vs Q (WE W σ) hr I.env0 hb r h) fun r s' hq => ?_
  cases r with
  | error e => exact L2N.passAt tk σ pins H s e s' I hq
  | ok fl =>
    cases fl with
    | ret u => exact I.after hq
    | next => exact False.elim hq
    | brk => exact False.elim hq
    | cont => exact False.elim hq
theorem vals_one {vs : List V} {us : List Value} {v : V} {u : Value} (r : Vals vs us) (q : RelV v u) : Vals (vs ++ [v]) (us ++ [u]) := r.append (.cons q .nil)
theorem dx_callK0 {x kw : Str} {k j : Nat} {Fx : List D → Option Res} (hF : FnXK X.prog X.w X.K X.mg X.base k x kw Fx) (tk : L2N.Takes X W) (hr : Room j X.A) (hk : k ≤ j) (ha : DPA X B .str (e :: es) gs) (hg : Gl X x := by rfl) (hdb : (x == ("__debug__" : Str)) = false := by decide)
    (he : starEach (e :: es) X.env = (false, eval e X.env) :: starEach es X.env := by rfl) (hpl : (backTo pos (starEach es X.env)).any (·.1) = false := by rfl) : DXE X B W (.Call (.Name x p) (e :: es) [] pos) (nX0 gs Fx) := by
  obtain ⟨f, fd, ps, G, hm, kp, b0, b1⟩ := hF.ex
  refine ⟨⟨fun pins s σ H Q I ⟨O, ρ, r, gd, e, q⟩ => ?_⟩⟩
  obtain ⟨ds, e1, e2⟩ := bind_some e
  refine wpAny_Call_Name_kw (ld_glob I hg hm ?_ hdb)
  refine PySem.W.callWith_K (h₀ := X.base) I.ok.mod.kin kp (thn (ha.pa.run pos pins s σ H (fun vs H1 => spX X.mg Fx (vs ++ [.non]) H1 Q (WE W σ)) I ⟨O, ρ, ds, gd, e1, fun vs H1 s1 r1 => ⟨O, ds ++ [.none], r, (gd.same s1).otrk, r1.append (.one (rep_none.mpr rfl)), e2, ?_⟩⟩) fun us s1 ⟨vs, H1, I1, r, q⟩ => ⟨I1.kIn, ?_⟩) he hpl
  · cases r with
    | ok d => exact fun v H2 s2 r2 => q v H2 (s1.trans s2) r2
    | er C => exact fun a H2 hC s2 => q a H2 hC (s1.trans s2)
  · have r2 := vals_one (v := .non) (u := Value.none) r rfl
    exact wpAny_call (run_fnXK G (hr.mono hk) tk I1 (b0 s1 us I1.kIn (by rw [← r2.length]; exact G.len _ _ _ _ q)) r2 q)
theorem dx_callK1 {x kw : Str} {k j : Nat} {Fx : List D → Option Res} (hF : FnXK X.prog X.w X.K X.mg X.base k x kw Fx) (tk : L2N.Takes X W) (hr : Room j X.A) (hk : k ≤ j) (ha : DPA X B .str (e :: es) gs) (hkw : DP X B .str ek gk) (hg : Gl X x := by rfl) (hdb : (x == ("__debug__" : Str)) = false := by decide)
    (hall : (backToKw pos (keywordEach [⟨some kw, ek, kpos⟩] X.env)).all (·.1.isSome) = true := by rfl) (hks : (backToKw pos (keywordEach [⟨some kw, ek, kpos⟩] X.env)).filterMap (·.1) = [kw] := by rfl)
    (he : starEach (e :: es) X.env = (false, eval e X.env) :: starEach es X.env := by rfl) (hpl : ((backTo pos (starEach (e :: es) X.env)).any (·.1) || (backToKw pos (keywordEach [⟨some kw, ek, kpos⟩] X.env)).any (·.1.isNone)) = false := by rfl) : DXE X B W (.Call (.Name x p) (e :: es) [⟨some kw, ek, kpos⟩] pos) (nX1 gs gk Fx) := by
  obtain ⟨f, fd, ps, G, hm, kp, b0, b1⟩ := hF.ex
  refine ⟨⟨fun pins s σ H Q I ⟨O, ρ, r, gd, e, q⟩ => ?_⟩⟩
  obtain ⟨ds, e1, e3⟩ := bind_some e
  obtain ⟨d, e2, e4⟩ := bind_some e3
  refine wpAny_Call_Name_kw (ld_glob I hg hm ?_ hdb)
  have hk2 : PK X [⟨some kw, ek, kpos⟩] (tCons (tP B .str gk) tNil) := pk_cons hkw.pe pk_nil
  refine PySem.W.callWith_KW (h₀ := X.base) I.ok.mod.kin kp hall (thn (ha.pa.run pos pins s σ H (fun vs H1 => ∃ h1 : RepL O H1 ds vs, Same H H1) I ⟨O, ρ, ds, gd, e1, fun vs H1 s1 r1 => ⟨r1, s1⟩⟩) fun us s1 ⟨vs, H1, I1, rv, r1, s1'⟩ => ?_) hpl he
  refine thn (hk2.run pos pins s1 σ H1 (fun zs H2 => ∃ z, zs = [z] ∧ spX X.mg Fx (vs ++ [z]) H2 Q (WE W σ)) I1 ⟨O, ρ, d, gd.same s1', e2, fun z H2 s2 rz => ⟨z, rfl, O, ds ++ [d], r, (gd.same (s1'.trans s2)).otrk, (r1.same s2).append (.one rz), e4, ?_⟩⟩) fun ws s2 ⟨zs, H2, I2, rz, z, ez, q2⟩ => ⟨I2.kIn, ?_⟩
  · cases r with
    | ok d => exact fun v H3 s3 r3 => q v H3 ((s1'.trans s2).trans s3) r3
    | er C => exact fun a H3 hC s3 => q a H3 hC ((s1'.trans s2).trans s3)
  · subst ez
    rw [hks]
    cases rz with
    | cons rz rn =>
      cases rn
      have r2 := vals_one rv rz
      have hl : us.length = ps.length := by
        have := G.len _ _ _ _ q2
        rw [r2.length, List.length_append, List.length_append] at this
        simpa using this
      exact wpAny_call (run_fnXK G (hr.mono hk) tk I2 (b1 s2 us _ hl) r2 q2)
end
/-! ### the law -/
def spLawT (K : PySem.W.Frag) (cs : List (Addr × Addr)) : Sp := fun vs H Q E => (∀ p ∈ cs, H p.2 = some (.tbl #[])) ∧ spLaw K vs H Q E
theorem tab0 {H : Hp} {P : Addr} (h : H P = some (.tbl #[])) : TabAt H P := ⟨#[], h, trivial, fun pos cv e => by
  have z : codeAmong pos [] = some cv := e
  simp [codeAmong] at z⟩
theorem good_lawL (H : Hp) (a : Addr) (n : Nat) {L : Nat → Addr → Addr → HO} {q : Str} : Good ⟨H, fun _ => False, fun _ => False, L, q⟩ (fun _ => False) (some (.ref a) :: List.replicate n none) H (.raw (.ref a) :: List.replicate n .nil) := (good_law H a n).lam0 fun i ks e => by
  cases i with
  | zero => simp at e
  | succ i =>
    rw [List.getElem?_cons_succ, List.getElem?_replicate] at e
    split at e <;> cases e
end DL

set_option autoImplicit false
/-! sorted(xs): xs a list of tuples of ints whose first item is the empty tuple -/
namespace DL
open PySem PySem.Spec
open PyProof.Rows hiding St
open L2
theorem call_tuple_lt {A : Around} {s : Shared} {prog : Program} {w : World} {E : Value → Shared → Prop} {Q : Value → Shared → Prop} {l b : Addr} {items items2 : Array Value} {e r : Nat → Bool} (hl : s.heap.IsTuple l items) (hb : s.heap.IsTuple b items2)
    (he : ∀ j (h1 : j < items.size) (h2 : j < items2.size), PySem.SeqAt.EqAt A.in1 s items[j] items2[j] (e j)) (hr : ∀ j (h1 : j < items.size) (h2 : j < items2.size), e j = false → PySem.SeqAt.RcLt A.in1 s items[j] items2[j] (r j))
    (h : Q (.bool (PySem.SeqAt.firstLt e r (decide (items.size < items2.size)) (List.range (min items.size items2.size)))) s) : wpAny (model prog w) A (call (.builtin "tuple.__lt__") [.ref l, .ref b]) Q E s := by
  obtain ⟨⟨cls, dd, data, sl⟩, ho, hc, n, hd⟩ := id hl
  obtain ⟨⟨cls2, dd2, data2, sl2⟩, ho2, hc2, n2, hd2⟩ := id hb
  simp only at hc hd hc2 hd2
  subst hc hd hc2 hd2
  exact call_meets F.slot_tuple_lt ⟨_, ho, rfl⟩ F.entry_tuple_lt (F.args_tuple_lt_2 _ _) (PySem.SeqAt.tuple_ltAt l b items items2 n n2 dd dd2 sl sl2 e r) ⟨ho, ho2, he, hr, h⟩
section
variable {prog : Program} {w : World} {A : Around} {E : Value → Shared → Prop} {s : Shared}
theorem oneLt_tuples {xs ys : List PyData} {a b : Value} {as bs : List Addr} {Q : Bool → Shared → Prop} (ra : Reads s.heap a (.tuple xs) as) (rb : Reads s.heap b (.tuple ys) bs) (hal : PySem.W.alikeAll xs ys = true)
    (hu : A.units + min (PyData.tuple xs).depth (PyData.tuple ys).depth < cLine) (hq : Q (PySem.W.dataLt (.tuple xs) (.tuple ys)) s) : wpAny (model prog w) A (oneLt' true a b) Q E s := by
  cases ra with
  | @tuple l o vs n _ _ h1 h2 h3 h4 =>
    cases rb with
    | @tuple l' o' vs' n' _ _ k1 k2 k3 k4 =>
      have n1 : vs.size = xs.length := by simpa using PySem.SeqAt.ReadsAll.length _ _ _ h4
      have n2 : vs'.size = ys.length := by simpa using PySem.SeqAt.ReadsAll.length _ _ _ k4
      rw [PySem.W.dataLt_tuple, ← PySem.W.firstLt_toks xs ys hal, ← n1, ← n2] at hq
      rw [oneLt'_eq]
      simp only [if_true]
      refine wpAny_bind (wpAny_cRoomFor (PySem.SeqAt.room_here hu) ?_)
      refine wpAny_bind (wpAny_callSpecialIfBound?_slot (T := "tuple") ⟨_, h1, h2⟩ F.slot_tuple_lt (call_tuple_lt (e := PySem.SeqAt.pairEq xs ys) (r := fun j => PySem.W.dataLt (xs.getD j .none) (ys.getD j .none)) ⟨_, h1, h2, _, h3⟩ ⟨_, k1, k2, _, k3⟩ (fun j j1 j2 => ?_) (fun j j1 j2 hj => ?_) ?_))
      · have := PySem.W.eqAt_alikeAll xs ys A.in1 s vs.toList vs'.toList _ _ h4 k4 hal (PySem.SeqAt.room_in hu) j (by simpa using j1) (by simpa using j2)
        simpa using this
      · have := PySem.W.rcLt_alikeAll xs ys A.in1 s vs.toList vs'.toList _ _ h4 k4 hal (PySem.SeqAt.room_in hu) j (by simpa using j1) (by simpa using j2) hj
        simpa using this
      · exact wpAny_truthy_bool hq
theorem mapM_some {M : Model} : ∀ (vs : List Value) {Q : List (Option Value) → Shared → Prop}, (∀ v ∈ vs, ∃ (a : Addr) (xs : Array Value), v = .ref a ∧ s.heap.IsTuple a xs) → (∀ ys : List (Option Value), ys.length = vs.length → Q ys s) → wpAny M A (vs.mapM firstOfTuple') Q E s
  | [], _, _, h => by
    rw [List.mapM_nil]
    exact wpAny_pure (h [] rfl)
  | v :: vs, Q, hv, h => by
    obtain ⟨a, xs, rfl, o, ho, hc, n, hd⟩ := hv v (.head _)
    rw [List.mapM_cons]
    refine wpAny_bind ?_
    rw [PySem.W.kas_first_eq]
    refine wpAny_bind (PySem.W.Looks.here (show PySem.W.Looks M s.heap (typeOf (.ref a)) o.cls from (PySem.W.Looks.ld ho).andThen .now) ?_)
    rw [hc, if_neg (by first | decide | simp)]
    refine wpAny_bind (listItems_at ho hd (wpAny_pure ?_))
    exact wpAny_bind (mapM_some vs (Q := fun bs s' => wpAny M A (pure (_ :: bs)) Q E s') (fun u hu => hv u (.tail _ hu)) fun ys hy => wpAny_pure (h _ (by rw [List.length_cons, List.length_cons, hy])))
theorem kind_tups {M : Model} {v : Value} {vs : List Value} {Q : SortKind → Shared → Prop} (h0 : ∃ a : Addr, v = .ref a ∧ s.heap.IsTuple a #[]) (hv : ∀ u ∈ vs, ∃ (a : Addr) (xs : Array Value), u = .ref a ∧ s.heap.IsTuple a xs) (h : Q oneType' s) :
    wpAny M A (keyKind' (v :: vs).toArray) Q E s := by
  have hall : ∀ u ∈ v :: vs, ∃ (a : Addr) (xs : Array Value), u = .ref a ∧ s.heap.IsTuple a xs := fun u hu => by
    rcases List.mem_cons.mp hu with rfl | hu
    · obtain ⟨a, e1, e2⟩ := h0; exact ⟨a, _, e1, e2⟩
    · exact hv u hu
  rw [keyKind'_eq, List.mapM_toArray, map_eq_pure_bind]
  refine wpAny_bind (wpAny_bind ?_)
  rw [List.mapM_cons]
  obtain ⟨a, rfl, o, ho, hc, n, hd⟩ := h0
  refine wpAny_bind ?_
  rw [PySem.W.kas_first_eq]
  refine wpAny_bind (PySem.W.Looks.here (show PySem.W.Looks M s.heap (typeOf (.ref a)) o.cls from (PySem.W.Looks.ld ho).andThen .now) ?_)
  rw [hc, if_neg (by first | decide | simp)]
  refine wpAny_bind (listItems_at ho hd (wpAny_pure ?_))
  refine wpAny_bind (mapM_some vs hv fun ys hy => wpAny_pure (wpAny_pure ?_))
  have e0 : (#[] : Array Value)[0]? = none := rfl
  rw [e0]
  rw [if_neg (by simp), if_neg (by simp)]
  rw [oneTypeOnly'_eq, List.mapM_toArray, map_eq_pure_bind]
  refine wpAny_bind (wpAny_bind (wpAny_bind (PySem.W.kas_mapM (r := Value.type "tuple") _ (fun u hu Q' hq => ?_) (wpAny_pure ?_))))
  · obtain ⟨b, xs, rfl, o2, ho2, hc2, _⟩ := hall u hu
    exact PySem.W.Looks.here (show PySem.W.Looks M s.heap (typeOf (.ref b)) (Value.type "tuple") from hc2 ▸ (PySem.W.Looks.ld ho2).andThen .now) hq
  · have hall2 : ((List.map (fun _ => Value.type "tuple") (Value.ref a :: vs)).toArray.all fun x => x == Value.type "tuple") = true := by
      simp only [List.all_toArray, List.all_map, List.all_eq_true]
      intro _ _
      rfl
    have h0 : (List.map (fun _ => Value.type "tuple") (Value.ref a :: vs)).toArray[0]? = some (Value.type "tuple") := by simp
    rw [h0]
    simp only [hall2, if_true]
    exact wpAny_pure (wpAny_pure h)
theorem sortsAt_tups {v : Value} {vs : List Value} {ds : List PyData} (e : PySem.W.EachIs (fun v d => ∃ as, Reads s.heap v d as) (v :: vs) (.tuple [] :: ds)) (hal : PySem.W.AllAlike (.tuple [] :: ds)) (ht : ∀ d ∈ ds, ∃ xs, d = .tuple xs) (hu : ∀ d, d ∈ PyData.tuple [] :: ds → A.units + d.depth < cLine) :
    PySem.W.SortsAt prog w A s (PySem.W.dataKind s.heap (.tuple [] :: ds)) (v :: vs) := by
  have ht' : ∀ d ∈ PyData.tuple [] :: ds, ∃ xs, d = .tuple xs := fun d hd => by
    rcases List.mem_cons.mp hd with rfl | hd
    · exact ⟨_, rfl⟩
    · exact ht d hd
  refine ⟨fun u hv => ?_, oneType', ?_, fun _ E Q hq => ?_⟩
  · obtain ⟨d, hd, as, r⟩ := e.left u hv
    exact ⟨_, PySem.W.dataKind_some hal hd r⟩
  · intro E x y a b Q ha hb hq
    obtain ⟨d, as, hd, ra, rfl⟩ := PySem.W.dataKind_inv ha
    obtain ⟨d', as', hd', rb, rfl⟩ := PySem.W.dataKind_inv hb
    rw [keyLt'_oneType]
    have hx := hal d hd d' hd'
    obtain ⟨xs, rfl⟩ := ht' d hd
    obtain ⟨ys, rfl⟩ := ht' d' hd'
    refine oneLt_tuples ra rb (by simpa [PySem.W.alike] using hx) ?_ hq
    have := hu _ hd
    have := Nat.min_le_left (PyData.tuple xs).depth (PyData.tuple ys).depth
    omega
  · cases e with
    | cons h1 h2 =>
      obtain ⟨as, r⟩ := h1
      refine kind_tups ?_ (fun u hu => ?_) hq
      · cases r with
        | @tuple l o xs n _ _ g1 g2 g3 g4 =>
          have n1 : xs.size = 0 := by simpa using PySem.SeqAt.ReadsAll.length _ _ _ g4
          have : xs = #[] := Array.eq_empty_of_size_eq_zero n1
          subst this
          exact ⟨l, rfl, o, g1, g2, n, g3⟩
      · obtain ⟨d, hd, as, r⟩ := h2.left u hu
        obtain ⟨xs, rfl⟩ := ht d hd
        cases r with
        | @tuple l o ys n _ _ g1 g2 g3 g4 => exact ⟨l, ys, rfl, o, g1, g2, n, g3⟩
theorem sorted_tups {R : Value → List Int → Prop} {l : Addr} {v : Value} {vs : List Value} {rs : List (List Int)} {Q : Value → Shared → Prop} (hl : s.heap.IsList l (v :: vs).toArray) (e : PySem.W.EachIs R (v :: vs) ([] :: rs)) (er : PySem.W.EachIs (fun v b => ∃ as, Reads s.heap v (tupI b) as) (v :: vs) ([] :: rs)) (hL : ([] :: rs).length ≤ sizeLine)
    (hu : ∀ b : List Int, A.units + 2 + (tupI b).depth < cLine) (h : ∀ out, out.length = ([] :: rs).length → PySem.W.EachIs R out (([] :: rs).mergeSort (PySem.W.dataLe false tupI)) → Q (.ref (s.heap.objs.size + 1)) { s with heap := PyProof.Rows.sortedAll s.heap (v :: vs) (List.toArray out) }) :
    wpAny (model prog w) A (call (.builtin "sorted") [.ref l]) Q E s := by
  have hal : PySem.W.AllAlike (([] :: rs).map tupI) := PySem.W.AllAlike.of fun b b' => by
    show PySem.W.alike (.tuple (intsD b)) (.tuple (intsD b')) = true
    rw [PySem.W.alike]
    exact PySem.W.alike_ints b b'
  have er' : PySem.W.EachIs (fun u b => ∃ as, Reads (PySem.W.sortingHeap (PySem.W.copyHeap s.heap (v :: vs)) (s.heap.objs.size + 1) (v :: vs)) u (tupI b) as) (v :: vs) ([] :: rs) := er.mono fun _ _ ⟨as, r⟩ => ⟨as, PyProof.Rows.Reads.keeps (fun _ _ => PySem.W.sorting_copy_old) r⟩
  have em : ([] :: rs).map tupI = .tuple [] :: rs.map tupI := rfl
  refine PySem.W.sorted_vals hl (κ := PySem.W.dataKind _ (([] :: rs).map tupI)) (by
    rw [em]
    refine sortsAt_tups (s := { s with heap := PySem.W.sortingHeap (PySem.W.copyHeap s.heap (v :: vs)) (s.heap.objs.size + 1) (v :: vs) }) ?_ hal (fun d hd => ?_) fun d hd => ?_
    · exact PySem.W.each_map (R := fun u d => ∃ as, Reads (PySem.W.sortingHeap (PySem.W.copyHeap s.heap (v :: vs)) (s.heap.objs.size + 1) (v :: vs)) u d as) tupI er'
    · obtain ⟨b, _, rfl⟩ := List.mem_map.mp hd
      exact ⟨_, rfl⟩
    · rw [← em] at hd
      obtain ⟨b, _, rfl⟩ := List.mem_map.mp hd
      exact hu b) (by rw [e.length]; exact hL) (h _ (by rw [PySem.W.sortVals_length false rfl]; exact e.length) (PySem.W.sortVals_data false e er' hal))
end
@[simp] def sortED : List D → Option D
  | [.list ds] => (rowsOf ds).bind fun rs => match rs with
    | [] :: r => if r.length ≤ 99999 then some (.list ((([] :: r).mergeSort (PySem.W.dataLe false tupI)).map tupI)) else none
    | _ => none
  | _ => none
def rSortE (K : PySem.W.Frag) : List V → Hp → VK → Prop := fun vs H Q =>
  ∃ (a : Addr) (xs : List V) (rs : List (List Int)) (O : Addr → Prop), vs = [V.ref a] ∧ SqL K H a xs ∧ RepL O H (([] :: rs).map tupI) xs ∧ rs.length ≤ 99999 ∧
    ∀ (ys : List V) (p : Addr), H p = none → RepL O H ((([] :: rs).mergeSort (PySem.W.dataLe false tupI)).map tupI) ys → Q (.ref p) (upd H p (.lst ys))
theorem cr_sortE {X : Cx} (hu : X.A.units + 64 < cLine) : CallR X (.builtin "sorted") (rSortE X.K) := by
  intro pins s σ H vs us Q I r h
  obtain ⟨a, xs, rs, O, rfl, hs, hr, hz, q⟩ := h
  obtain ⟨its, rv, hl, _⟩ := I.list hs
  rw [Vals.ref1 r]
  have e := each_rep hr rv
  have hlen : its.length = rs.length + 1 := e.length
  have hz' : rs.length + 1 ≤ sizeLine := line_le (by omega)
  cases its with
  | nil => cases hlen
  | cons v its =>
    refine sorted_tups hl.isList e (e.mono fun u b ⟨v, h1, h2⟩ => Dp.reads I _ _ _ (Rep.dp h2) h1) hz' (fun b => ?_) fun out ho eo => ?_
    · have := depth_tupI b; omega
    · obtain ⟨ys, r1, r2⟩ := rep_each eo
      obtain ⟨ep, he'⟩ := PyProof.Rows.sortedAll_at s.heap (v :: its) out.toArray
      have hyl : ys.length ≤ sizeLine := by rw [r1.length, ho]; exact hz'
      exact ⟨.ref _, upd H (s.heap.objs.size + 1) (.lst ys), I.laid (t' := s.toks) (fun _ _ => PyProof.Rows.sortedAll_old) (Nat.le_succ _) ⟨hyl, out, ep, r1, he'⟩, rfl, q ys _ (I.hok.fresh (Nat.le_succ _)) r2⟩
theorem n_sortE {K : PySem.W.Frag} : OpN (rSortE K) sortED := by
  intro O H ds z xs Q t hf rx q
  unfold sortED at hf
  split at hf
  · obtain ⟨rs, e1, e2⟩ := bind_some hf
    split at e2
    · split at e2
      · next hj =>
        cases e2
        obtain ⟨v, rfl, r⟩ := repL_one rx
        simp only [Rep] at r
        obtain ⟨a, vs, rfl, _, ha, r⟩ := r
        rw [rowsOf_eq e1] at r
        exact ⟨a, vs, _, O, rfl, .of ha, r, hj, fun ys p hn hy => q _ _ (same_upd hn) (rep_lst t hn hy)⟩
      · cases e2
    · cases e2
  · cases hf
end DL

set_option autoImplicit false
/-! what may raise, where it does not -/
namespace DL
open PySem PySem.Spec
open PyProof.Rows hiding St
open L2
@[simp] def okR (g : Rho → Option Res) : Rho → Option D := fun ρ => (g ρ).bind fun r => match r with
  | .ok d => some d
  | .er _ => none
theorem dp_ofX {X : Cx} {B : Base} {m : Md} {e : Expr} {g : Rho → Option Res} (h : DXE X B (fun _ _ _ _ => False) e g) : DP X B m e (okR g) := ⟨h.pe.imp fun σ H Q ⟨O, ρ, d, gd, e, q⟩ => by
  obtain ⟨r, e1, e2⟩ := bind_some e
  refine ⟨O, ρ, r, gd, e1, ?_⟩
  cases r with
  | ok d' =>
    cases e2
    exact fun v H' s r => q v H' s (r.less (gd.mO m))
  | er C => cases e2⟩
end DL

set_option autoImplicit false
namespace DL
open PySem PySem.Spec
open PyProof.Rows hiding St
open L2
/-! ## a comprehension with two fors -/
def compL2 (b : D → Rho → Option Rho) (t : Rho → Option Bool) (gs1 : Rho → Option (List D)) (vs1 : List Nat) (b1 : D → Rho → Option Rho) (t1 : Rho → Option Bool) (g : Rho → Option D) (ρ : Rho) : List D → Option (List D)
  | [] => some []
  | d :: ds => (b d ρ).bind fun ρ1 => (t ρ1).bind fun c => if c = true then (gs1 ρ1).bind fun es => if es.length ≤ 1000 then (compL b1 t1 g (wipeR ρ1 vs1) es).bind fun xs => (compL2 b t gs1 vs1 b1 t1 g ρ ds).bind fun ys => some (xs ++ ys) else none else compL2 b t gs1 vs1 b1 t1 g ρ ds
@[simp] def lc2D (gs : Rho → Option (List D)) (vs : List Nat) (b : D → Rho → Option Rho) (t : Rho → Option Bool) (gs1 : Rho → Option (List D)) (vs1 : List Nat) (b1 : D → Rho → Option Rho) (t1 : Rho → Option Bool) (g : Rho → Option D) : Rho → Option D := fun ρ => (gs ρ).bind fun ds => if ds.length ≤ 100 then (compL2 b t gs1 vs1 b1 t1 g (wipeR ρ vs) ds).bind fun es => some (.list es) else none
theorem compL_le {b : D → Rho → Option Rho} {t : Rho → Option Bool} {g : Rho → Option D} {ρ : Rho} : ∀ {ds es : List D}, compL b t g ρ ds = some es → es.length ≤ ds.length
  | [], es, h => by cases h; exact Nat.le_refl _
  | d :: ds, es, h => by
    obtain ⟨ρ1, _, h⟩ := bind_some h
    obtain ⟨c, _, h⟩ := bind_some h
    cases c with
    | false => exact Nat.le_succ_of_le (compL_le h)
    | true =>
      obtain ⟨e, _, h⟩ := bind_some h
      obtain ⟨r, h1, h⟩ := bind_some h
      cases h
      exact Nat.succ_le_succ (compL_le h1)
theorem lc2_imp {B : Base} {gs gs1 : Rho → Option (List D)} {vs vs1 is is1 : List Nat} {b b1 : D → Rho → Option Rho} {t t1 : Rho → Option Bool} {g : Rho → Option D} (his : ∀ i ∈ is, i ∈ vs) (his1 : ∀ i ∈ is1, i ∈ vs1) {σ : St} {H : Hp} {Q : VK}
    (h : ∃ O ρ es, Good B O σ H ρ ∧ lc2D gs vs b t gs1 vs1 b1 t1 g ρ = some (.list es) ∧ ∀ a us H', Same H H' → H a = none → H' a = some (.lst us) → RepL (fun b => O b ∨ b = a) H' es us → Q (.ref a) H') :
    tLc2 (tItC B gs) (tG B is b) (tPT B t) (tIt B gs1) (tG B is1 b1) (tPT B t1) (tP B .str g) vs vs1 σ H Q := by
  obtain ⟨O, ρ, tot, gd, e, q⟩ := h
  obtain ⟨ds, e1, e2⟩ := bind_some e
  split at e2
  case isFalse => cases e2
  next hlen =>
  obtain ⟨es, e3, e4⟩ := bind_some e2
  cases e4
  refine ⟨O, ρ, ds, gd, e1, fun J H1 s1 src Dl hD => ?_⟩
  have g1 := gd.same s1
  obtain ⟨nD, nD0, hD0⟩ := g1.fresh hD
  have sD : Same H1 (upd H1 Dl (.lst [])) := same_upd hD
  obtain ⟨gw, ww⟩ := g1.wipe vs
  have g2 : Good B (fun b => O b ∨ b ∈ [Dl]) (wipe σ vs) (upd H1 Dl (.lst [])) (wipeR ρ vs) := gw.more sD (fun b hb => by
    have : b = Dl := by simpa using hb
    rw [this]; exact hD) fun b hb => by
    have : b = Dl := by simpa using hb
    rw [this]; exact some_ne upd_same
  have nW : ¬ Wof (wipe σ vs) (wipeR ρ vs) Dl := fun z => nD (gw.wof z).1
  refine ⟨fun i n Hi => n = ds.length - i ∧ i ≤ ds.length ∧ ∃ acc fs rest, Hi Dl = some (.lst acc) ∧ Same H1 Hi ∧ Good B (fun b => O b ∨ b ∈ [Dl]) (wipe σ vs) Hi (wipeR ρ vs) ∧ RepL (fun b => O b ∨ b = Dl) Hi fs acc ∧ acc.length ≤ 1000 * i ∧ compL2 b t gs1 vs1 b1 t1 g (wipeR ρ vs) (ds.drop i) = some rest ∧ fs ++ rest = tot,
    ⟨ds.length, by simp, Nat.zero_le _, [], [], tot, upd_same, sD, g2, .nil, Nat.le_refl _, by simpa using e3, rfl⟩, ?_⟩
  rintro i n Hi ⟨rfl, hi, acc, fs, rest, hacc, sHi, gi, rfs, hal, ec, etot⟩
  obtain ⟨sgo, sst, sy⟩ := src (fun b => O b ∨ b ∈ [Dl]) Hi sHi (fun b h => h.elim .inl fun z => .inr (by
    have : b = Dl := by simpa using z
    rw [this]; exact hD)) gi.otrk
  by_cases hlt : i < ds.length
  · rw [List.drop_eq_getElem_cons hlt] at ec
    obtain ⟨ρ1, c1, c2⟩ := bind_some ec
    obtain ⟨k, c3, c4⟩ := bind_some c2
    refine .inr ⟨sgo i hlt, fun Hn => i + 1 ≤ ds.length ∧ ∃ acc fs rest, Hn Dl = some (.lst acc) ∧ Same H1 Hn ∧ Good B (fun b => O b ∨ b ∈ [Dl]) (wipe σ vs) Hn (wipeR ρ vs) ∧ RepL (fun b => O b ∨ b = Dl) Hn fs acc ∧ acc.length ≤ 1000 * (i + 1) ∧ compL2 b t gs1 vs1 b1 t1 g (wipeR ρ vs) (ds.drop (i + 1)) = some rest ∧ fs ++ rest = tot,
      fun Hn ⟨h1, h2⟩ => ⟨ds.length - (i + 1), by omega, rfl, h1, h2⟩, fun x H2 y => ?_⟩
    obtain ⟨d, ed, s2, rx⟩ := sy i x H2 hlt y
    have ed2 : ds[i] = d := by
      rw [List.getElem?_eq_getElem hlt] at ed
      exact Option.some.inj ed
    subst ed2
    refine ⟨_, wipeR ρ vs, _, ρ1, gi.same s2, rx, c1, fun σ2 g3 w3 hσ hl2 => ?_⟩
    have hDi : Hi Dl = some (.lst acc) := hacc
    have nW2 : ¬ Wof σ2 ρ1 Dl := fun z => nW (w3 Dl z)
    refine ⟨(wipe_eq hl2 fun j hj => hσ j fun z => hj (his j z)).trans (wipe_wipe σ vs), (fun b => O b ∨ b ∈ [Dl]), ρ1, k, g3, c3, fun H3 s3 => ?_⟩
    have s13 : Same H1 H3 := (sHi.trans s2).trans s3
    cases k with
    | false =>
      refine ⟨hlt, acc, fs, rest, s3 _ _ (s2 _ _ hDi), s13, gi.same (s2.trans s3), rfs.same (s2.trans s3), by omega, c4, etot⟩
    | true =>
      obtain ⟨us, c5, c6⟩ := bind_some c4
      split at c6
      case isFalse => cases c6
      next hul =>
      obtain ⟨xs, c7, c8⟩ := bind_some c6
      obtain ⟨rest', c9, c10⟩ := bind_some c8
      cases c10
      refine ⟨(fun b => O b ∨ b ∈ [Dl]), ρ1, us, g3.same s3, c5, fun J1 H4 s4 src1 => ?_⟩
      obtain ⟨G1, g10, g1m, g1go, g1st, g1y⟩ := src1
      have hD4 : H4 Dl = some (.lst acc) := s4 _ _ (s3 _ _ (s2 _ _ hDi))
      have s14 : Same H1 H4 := s13.trans s4
      refine ⟨fun j m Hj => m = us.length - j ∧ j ≤ us.length ∧ ∃ acc' fs' rs, Hj Dl = some (.lst acc') ∧ Same H1 Hj ∧ Mv (fun b => O b ∨ b ∈ [Dl]) H4 (fun b => O b ∨ b ∈ [Dl]) Hj ∧ Good B (fun b => O b ∨ b ∈ [Dl]) (wipe σ vs) Hj (wipeR ρ vs) ∧ Good B (fun b => O b ∨ b ∈ [Dl]) σ2 Hj ρ1 ∧
        RepL (fun b => O b ∨ b = Dl) Hj fs' acc' ∧ acc'.length ≤ 1000 * i + j ∧ compL b1 t1 g (wipeR ρ1 vs1) (us.drop j) = some rs ∧ fs' ++ rs = fs ++ xs,
        ⟨us.length, by simp, Nat.zero_le _, acc, fs, xs, hD4, s14, .same (Same.refl _), gi.same ((s2.trans s3).trans s4), g3.same (s3.trans s4), rfs.same ((s2.trans s3).trans s4), by omega, by simpa using c7, rfl⟩, ?_⟩
      rintro j m Hj ⟨rfl, hj, acc', fs', rs, hacc', sHj, mvj, goj, gmj, rfs', hal', ecj, etj⟩
      have gj := g1m _ _ _ _ mvj g10
      by_cases hjl : j < us.length
      · rw [List.drop_eq_getElem_cons hjl] at ecj
        obtain ⟨ρ2, k1, k2⟩ := bind_some ecj
        obtain ⟨kk, k3, k4⟩ := bind_some k2
        refine .inr ⟨g1go j _ _ hjl gj, fun Hn => j + 1 ≤ us.length ∧ ∃ acc' fs' rs, Hn Dl = some (.lst acc') ∧ Same H1 Hn ∧ Mv (fun b => O b ∨ b ∈ [Dl]) H4 (fun b => O b ∨ b ∈ [Dl]) Hn ∧ Good B (fun b => O b ∨ b ∈ [Dl]) (wipe σ vs) Hn (wipeR ρ vs) ∧ Good B (fun b => O b ∨ b ∈ [Dl]) σ2 Hn ρ1 ∧
          RepL (fun b => O b ∨ b = Dl) Hn fs' acc' ∧ acc'.length ≤ 1000 * i + (j + 1) ∧ compL b1 t1 g (wipeR ρ1 vs1) (us.drop (j + 1)) = some rs ∧ fs' ++ rs = fs ++ xs,
          fun Hn ⟨h1, h2⟩ => ⟨us.length - (j + 1), by omega, rfl, h1, h2⟩, fun x1 H5 y1 => ?_⟩
        obtain ⟨d1, ed1, s5, rx1⟩ := g1y j _ _ x1 H5 hjl goj.otrk gj y1
        have ed3 : us[j] = d1 := by
          rw [List.getElem?_eq_getElem hjl] at ed1
          exact Option.some.inj ed1
        subst ed3
        obtain ⟨gmw, wmw⟩ := (gmj.same s5).wipe vs1
        have mvs : ∀ {H' : Hp}, Same Hj H' → Mv (fun b => O b ∨ b ∈ [Dl]) H4 (fun b => O b ∨ b ∈ [Dl]) H' := fun sm => ⟨fun b o e q tt => sm.keep b o (mvj.keep b o e q tt) tt, fun b h => .inl h⟩
        refine ⟨_, wipeR ρ1 vs1, _, ρ2, gmw, rx1, k1, fun σ3 g4 w4 hσ3 hl3 => ?_⟩
        refine ⟨(wipe_eq hl3 fun j hj => hσ3 j fun z => hj (his1 j z)).trans (wipe_wipe σ2 vs1), (fun b => O b ∨ b ∈ [Dl]), ρ2, kk, g4, k3, fun H6 s6 => ?_⟩
        have s56 : Same Hj H6 := s5.trans s6
        cases kk with
        | false =>
          exact ⟨hjl, acc', fs', rs, s56 _ _ hacc', sHj.trans s56, mvs s56, goj.same s56, gmj.same s56, rfs'.same s56, by omega, k4, etj⟩
        | true =>
          obtain ⟨z, k5, k6⟩ := bind_some k4
          obtain ⟨rs', k7, k8⟩ := bind_some k6
          cases k8
          refine ⟨_, ρ2, z, g4.same s6, k5, fun yv H7 s7 ry => ?_⟩
          have s57 : Same Hj H7 := s56.trans s7
          have hD7 : H7 Dl = some (.lst acc') := s57 _ _ hacc'
          have szl : acc'.length < sizeLine := by rw [sizeLine_eq]; omega
          have nW2' : ¬ Wof σ2 ρ1 Dl := nW2
          refine ⟨acc', hD7, szl, hjl, acc' ++ [yv], fs' ++ [z], rs', upd_same, (sHj.trans s57).put hD (.lst hD7), ⟨fun c o e q tt => ?_, fun b h => .inl h⟩, ?_, ?_, ?_, by rw [List.length_append]; simp; omega, k7, by rw [List.append_assoc]; exact etj⟩
          · rw [upd_ne]
            · exact s57.keep _ _ (mvj.keep c o e q tt) tt
            · rintro rfl
              rw [hD4] at e
              cases e
              rcases q with q | q
              · exact q acc rfl
              · exact q (.inr (by simp))
          · exact (goj.same s57).at (.inr (by simp)) hD0 nW ⟨acc', hD7⟩
          · exact (gmj.same s57).at (.inr (by simp)) hD0 nW2' ⟨acc', hD7⟩
          · have r0 : RepL (fun b => O b ∨ b = Dl) H7 (fs' ++ [z]) (acc' ++ [yv]) := (rfs'.same s57).append (.one (ry.less fun b h => h.elim .inl fun e => .inr (by simp [e])))
            refine RepL.mv ⟨fun b o e q _ => ?_, fun b h => .inl h⟩ _ _ r0
            rw [upd_ne]
            · exact e
            · rintro rfl
              rw [hD7] at e
              cases e
              rcases q with q | q
              · exact q acc' rfl
              · exact q (.inr rfl)
      · have en : j = us.length := by omega
        subst en
        rw [List.drop_length] at ecj
        cases ecj
        rw [List.append_nil] at etj
        refine .inl ⟨g1st _ _ gj, hlt, acc', fs', rest', hacc', sHj, goj, rfs', by omega, c9, by rw [etj, List.append_assoc]; exact etot⟩
  · have en : i = ds.length := by omega
    subst en
    rw [List.drop_length] at ec
    cases ec
    rw [List.append_nil] at etot
    subst etot
    have : RepL (fun b => O b ∨ b = Dl) Hi fs acc := rfs
    exact .inl ⟨sst, q Dl acc Hi (s1.trans sHi) (s1.free hD) hacc rfs⟩
theorem lc2_list {gs gs1 : Rho → Option (List D)} {vs vs1 : List Nat} {b b1 : D → Rho → Option Rho} {t t1 : Rho → Option Bool} {g : Rho → Option D} {ρ : Rho} {d : D} (e : lc2D gs vs b t gs1 vs1 b1 t1 g ρ = some d) : ∃ es, d = .list es := by
  obtain ⟨ds, _, e2⟩ := bind_some e
  split at e2
  · obtain ⟨es, _, e4⟩ := bind_some e2
    cases e4
    exact ⟨es, rfl⟩
  · cases e2
theorem ds_setLc2 {X : Cx} {B : Base} {i : Nat} {y : Str} {py spos pos : Pos} {elt tg iter tg1 iter1 : Expr} {ifs ifs1 : List Expr} {scope : Scope} {own : List (Str × Nat)} {vs1 is is1 : List Nat} {gs gs1 : Rho → Option (List D)} {b b1 : D → Rho → Option Rho} {t t1 : Rho → Option Bool} {g : Rho → Option D}
    (hc : X.calm = true) (hN : X.N.Nodup) (hy : X.N[i]? = some y) (hyl : X.env.scope.names.lookup y = some .local) (hsw : swapsWith (.ListComp elt [⟨tg, iter, ifs, 0⟩, ⟨tg1, iter1, ifs1, 0⟩] scope pos) (some (.Name y py)) spos.line X.env = pure true)
    (hi : DIC X B tg iter gs) (ok : BlkOk X.N X.env.scope scope own) (his : ∀ i ∈ is, i ∈ own.map (·.2)) (his1 : ∀ i ∈ is1, i ∈ vs1) (hv : ∀ i ∈ vs1, i ∈ own.map (·.2))
    (hg : ∀ (s : Shared) (H : Hp) (C : Addr) (cl : List (Str × Addr)) (fp : List Addr), DG (X.blk s H scope (compEnvC scope cl C X.env) fp) B tg is b)
    (ht : ∀ (s : Shared) (H : Hp) (C : Addr) (cl : List (Str × Addr)) (fp : List Addr), DTs (X.blk s H scope (compEnvC scope cl C X.env) fp) B ifs t)
    (hi1 : ∀ (s : Shared) (H : Hp) (C : Addr) (cl : List (Str × Addr)) (fp : List Addr), DI (X.blk s H scope (compEnvC scope cl C X.env) fp) B tg1 iter1 gs1)
    (hg1 : ∀ (s : Shared) (H : Hp) (C : Addr) (cl : List (Str × Addr)) (fp : List Addr), DG (X.blk s H scope (compEnvC scope cl C X.env) fp) B tg1 is1 b1)
    (ht1 : ∀ (s : Shared) (H : Hp) (C : Addr) (cl : List (Str × Addr)) (fp : List Addr), DTs (X.blk s H scope (compEnvC scope cl C X.env) fp) B ifs1 t1)
    (he : ∀ (s : Shared) (H : Hp) (C : Addr) (cl : List (Str × Addr)) (fp : List Addr), DP (X.blk s H scope (compEnvC scope cl C X.env) fp) B .str elt g) (hs : ∀ x, foldedSetIterable iter X.env x = pure x := by intro _; rfl) (hs1 : ∀ env x, foldedSetIterable iter1 env x = pure x := by intro _ _; rfl) :
    DS X B (.Assign [.Name y py] (.ListComp elt [⟨tg, iter, ifs, 0⟩, ⟨tg1, iter1, ifs1, 0⟩] scope pos) spos) (setP i (lc2D gs (own.map (·.2)) b t gs1 vs1 b1 t1 g)) :=
  ⟨(ps_setLc2 hc hN hy hyl hsw hi.pi ok hv (fun s H C cl fp => (hg s H C cl fp).pg) (fun s H C cl fp => (ht s H C cl fp).pts) (fun s H C cl fp => (hi1 s H C cl fp).pi) (fun s H C cl fp => (hg1 s H C cl fp).pg) (fun s H C cl fp => (ht1 s H C cl fp).pts) (fun s H C cl fp => (he s H C cl fp).pe) hs hs1).imp fun E σ H ⟨O, ρ, r, gd, e, q⟩ => by
    obtain ⟨d, e1, e2⟩ := bind_some e
    cases e2
    obtain ⟨es, rfl⟩ := lc2_list e1
    refine lc2_imp his his1 ⟨O, ρ, es, gd, e1, fun a us H' s ha ha' r => ?_⟩
    obtain ⟨n1, n2, n3⟩ := gd.fresh ha
    have rr : Rep O H' (.list es) (.ref a) := rep_fresh n1 (fun c z => .inl z) ha' r
    obtain ⟨g2, w2⟩ := (gd.same s).set (i := i) rr
    exact q _ H' O ⟨.of s, fun _ h => .inl h, fun _ h => h, fun b h => .inl (w2 b h)⟩ g2⟩
end DL

set_option autoImplicit false
namespace DL
open PySem PySem.Spec
open PyProof.Rows hiding St
open L2
/-! ## a def without parameters called -/
theorem dp_call0 {X : Cx} {B : Base} {m : Md} {x : Str} {k j : Nat} {F : List D → Option D} {p pos : Pos} (hF : Fn X.prog X.w X.K X.mg X.base k x F) (hr : Room j X.A) (hk : k ≤ j) (hg : Gl X x := by rfl) (hdb : (x == ("__debug__" : Str)) = false := by decide) :
    DP X B m (.Call (.Name x p) [] [] pos) (nD nilA F) := by
  obtain ⟨fa, fd, ps, G, hm, kp, b⟩ := hF.ex
  refine ⟨(pe_call0 G (hr.mono hk) hg hm kp b .nil pass0 hdb).imp fun σ H Q ⟨O, ρ, d, gd, e, q⟩ => ?_⟩
  obtain ⟨ds, e1, e2⟩ := bind_some e
  cases e1
  show spP F ([] ++ []) H Q E0
  exact ⟨_, [], d, gd.otr m, .nil, e2, fun v H2 s2 r2 => q v H2 s2 r2⟩
end DL

set_option autoImplicit false
namespace DL
open PySem PySem.Spec
open PyProof.Rows hiding St
open L2
section
variable {C a l : Addr} {rl : D} {sts : List D} {H H' : Hp}
abbrev But (l : Addr) (H H' : Hp) : Prop := ButB l H H'
theorem But.mv {us : List V} (k : But l H H') (hl : H l = some (.lst us)) : Mv (fun b => b = l) H NO H' := ⟨fun b o e q tt => by
  refine k.keep b o (fun z => ?_) e tt
  rcases q with q | q
  · subst z
    rw [hl] at e; cases e; exact q us rfl
  · exact q z, fun _ z => z.elim⟩
theorem But.rep {us : List V} (k : But l H H') (hl : H l = some (.lst us)) {d : D} {v : V} (f : flat d = true) (r : Rep NO H d v) : Rep NO H' d v := Rep.mv (k.mv hl) d v (rep_flat d v f r)
theorem But.repL {us : List V} (k : But l H H') (hl : H l = some (.lst us)) {ds : List D} {vs : List V} (f : flatL ds = true) (r : RepL NO H ds vs) : RepL NO H' ds vs := RepL.mv (k.mv hl) ds vs (repL_flat ds vs f r)
theorem But.same (s : Same H H') : But l H H' := ⟨fun c o _ e t => s.keep c o e t, s.tb⟩
theorem But.trans {H2 : Hp} (x : But l H H') (y : But l H' H2) : But l H H2 := ⟨fun c o n e t => y.keep c o n (x.keep c o n e t) t, x.tb.trans y.tb⟩
theorem DocAt.but (d : DocAt C H a l rl sts) (k : But l H H') {us' : List V} {sts' : List D} (h' : H' l = some (.lst us')) (r' : RepL NO H' sts' us') (f' : flatL sts' = true) : DocAt C H' a l rl sts' := by
  obtain ⟨⟨dx, vr, h1, r1⟩, ⟨us, h2, r2⟩, f1, f2⟩ := d
  refine ⟨⟨dx, vr, k.keep _ _ (fun z => ?_) h1, k.rep h2 f1 r1⟩, ⟨us', h', r'⟩, f1, f'⟩
  subst z
  rw [h2] at h1; cases h1
end
def spM (C : Addr) (F : Addr → D → List D → List D → Option (D × List D)) : Sp := fun vs H Q _ => ∃ a l rl sts ds ws r sts', vs = V.ref a :: ws ∧ DocAt C H a l rl sts ∧ RepL NO H ds ws ∧ flatL ds = true ∧ F a rl sts ds = some (r, sts') ∧
  ∀ v H', But l H H' → DocAt C H' a l rl sts' → Rep NO H' r v → Q v H'
@[simp] def selfD (a : Addr) (d : D) : Rho → Option D := fun ρ => match ρ[(0 : Nat)]? with
  | some (.raw v) => if v = .ref a then some d else none
  | _ => none
structure ClsX (K : PySem.W.Frag) (C : Addr) : Prop where
  cls : Cls K C
  nr : NoAttr K C "rule"
  ns : NoAttr K C "states"
  most : ∃ u, Con K C "MOST" (.int 60) u
structure DocCx (X : Cx) (B : Base) (C a l : Addr) (rl : D) (sts : List D) : Prop where
  x : ClsX X.K C
  at_ : DocAt C B.H0 a l rl sts
  nR : ∀ b, ¬ B.R b
  nO : B.O0 = NO
section
variable {X : Cx} {B : Base} {m : Md} {C a l : Addr} {rl ls : D} {sts : List D} {e : Expr} {g g' : Rho → Option D} {pos : Pos}
theorem slot0 {O : Addr → Prop} {σ : St} {H : Hp} {ρ : Rho} {d z : D} (gd : Good B O σ H ρ) (h : selfD a d ρ = some z) : d = z ∧ σ[(0 : Nat)]? = some (some (V.ref a)) := by
  unfold selfD at h
  split at h
  · next v e =>
    split at h
    · next hv =>
      cases h
      have k := gd.slots 0 _ e
      subst hv
      exact ⟨rfl, k⟩
    · cases h
  · cases h
theorem DocCx.same {O : Addr → Prop} {σ : St} {H : Hp} {ρ : Rho} (c : DocCx X B C a l rl sts) (gd : Good B O σ H ρ) : Same B.H0 H := gd.frame.out c.nR
theorem dp_imp (h : DP X B m e g) (i : ∀ ρ d, g' ρ = some d → g ρ = some d) : DP X B m e g' := ⟨h.pe.imp fun σ H Q ⟨O, ρ, d, gd, e1, q⟩ => ⟨O, ρ, d, gd, i _ _ e1, q⟩⟩
theorem dp_flat (h : DP X B .bas e g) (f : ∀ ρ d, g ρ = some d → flat d = true) : DP X B m e g := ⟨h.pe.imp fun σ H Q ⟨O, ρ, d, gd, e1, q⟩ => ⟨O, ρ, d, gd, e1, fun v H' s r => q v H' s (rep_flat d v (f _ _ e1) r)⟩⟩
theorem dp_rule (c : DocCx X B C a l rl sts) (he : PE X e (tVar 0)) (hb : attributeBase e "rule" X.env (eval e X.env) = eval e X.env := by rfl) : DP X B m (.Attribute e "rule" pos) (selfD a rl) := ⟨(pe_fld he hb).imp fun σ H Q ⟨O, ρ, d, gd, e1, q⟩ => by
  obtain ⟨rfl, es⟩ := slot0 gd e1
  obtain ⟨dx, vr, h1, r1⟩ := (c.at_.same (c.same gd)).ob
  exact ⟨_, es, a, C, dx, _, vr, rfl, h1, c.x.cls, c.x.nr, dfs_rule _ _, q vr H (Same.refl H) (rep_flat _ _ c.at_.fr r1)⟩⟩
theorem dp_most (c : DocCx X B C a l rl sts) (he : PE X e (tVar 0)) (hb : attributeBase e "MOST" X.env (eval e X.env) = eval e X.env := by rfl) : DP X B m (.Attribute e "MOST" pos) (selfD a (.int 60)) := ⟨(pe_con he hb).imp fun σ H Q ⟨O, ρ, d, gd, e1, q⟩ => by
  obtain ⟨rfl, es⟩ := slot0 gd e1
  obtain ⟨dx, vr, h1, r1⟩ := (c.at_.same (c.same gd)).ob
  obtain ⟨u, k⟩ := c.x.most
  exact ⟨_, es, a, C, dx, _, _, u, rfl, h1, c.x.cls, k, dfs_no _ _ (by decide +kernel) (by decide +kernel), q _ H (Same.refl H) (rep_int.mpr rfl)⟩⟩
theorem dp_states (c : DocCx X B C a l rl sts) (he : PE X e (tVar 0)) (hb : attributeBase e "states" X.env (eval e X.env) = eval e X.env := by rfl) : DP X B .bas (.Attribute e "states" pos) (selfD a (.list sts)) := ⟨(pe_fld he hb).imp fun σ H Q ⟨O, ρ, d, gd, e1, q⟩ => by
  obtain ⟨rfl, es⟩ := slot0 gd e1
  have k := c.at_.same (c.same gd)
  obtain ⟨dx, vr, h1, r1⟩ := k.ob
  obtain ⟨us, h2, r2⟩ := k.ls
  refine ⟨_, es, a, C, dx, _, _, rfl, h1, c.x.cls, c.x.ns, dfs_states _ _, q _ H (Same.refl H) ?_⟩
  show Rep B.O0 H (.list sts) (.ref l)
  rw [c.nO]
  simp only [Rep]
  exact ⟨l, us, rfl, fun z => z, h2, r2⟩⟩
theorem dp_last {p1 p2 p3 p4 : Pos} {j} (c : DocCx X B C a l rl sts) (hl : sts.getLast? = some ls) (he : PE X e (tVar 0)) (hb : attributeBase e "states" X.env (eval e X.env) = eval e X.env := by rfl) :
    DP X B m (.Subscript (.Attribute e "states" p1) (.UnaryOp .USub (.Constant (.int 1) j p2) p3) p4) (selfD a ls) := by
  have h0 : DP X B .bas (.Subscript (.Attribute e "states" p1) (.UnaryOp .USub (.Constant (.int 1) j p2) p3) p4) (b2D (selfD a (.list sts)) (b1D (kD (.int 1)) negD) ixD) := dp_ix ix_seq o_ix (dp_states c he hb) (dp_un un_neg o_neg dp_int)
  have h1 : DP X B .bas (.Subscript (.Attribute e "states" p1) (.UnaryOp .USub (.Constant (.int 1) j p2) p3) p4) (selfD a ls) := dp_imp h0 fun ρ d e1 => by
    unfold selfD at e1
    split at e1
    · next v ev =>
      split at e1
      · next hv =>
        cases e1
        have hne : sts ≠ [] := by rintro rfl; simp at hl
        have hpos : 0 < sts.length := List.length_pos_iff.mpr hne
        rw [List.getLast?_eq_getElem?] at hl
        have e4 : atI sts (-1) = some ls := by
          unfold atI ixN
          rw [if_neg (by omega)]
          first
            | (rw [if_pos (by omega)]
               simp only [Option.bind_some]
               rw [← hl]
               congr 1
               omega)
            | skip
        simp [selfD, ev, hv, e4]
      · cases e1
    · cases e1
  exact dp_flat h1 fun ρ d e1 => by
    unfold selfD at e1
    split at e1
    · split at e1
      · cases e1
        exact flatL_mem c.at_.fs (List.mem_of_getLast? hl)
      · cases e1
    · cases e1
end
end DL

set_option autoImplicit false
namespace DL
open PySem PySem.Spec
open PyProof.Rows hiding St
open L2
/-! ## methods of a document -/
theorem good_startM {H : Hp} {ds : List D} {ws : List V} {y : Str} {N : List Str} {a : Addr} {tot : Nat} (r : RepL NO H ds ws) (hN : N.length = tot) (hl : ds.length ≤ tot) :
    Good ⟨H, NO, NO, nolam, Str.empty⟩ NO (L2.start (y :: N) (.ref a :: ws)) H (.raw (.ref a) :: startR tot ds) := by
  have hv := r.length
  have hst : L2.start (y :: N) (.ref a :: ws) = some (.ref a) :: L2.start N ws := by
    unfold L2.start
    simp
  have g1 := good_start (N := N) (O := NO) (fun _ z => z.elim) r hN hl
  rw [hst]
  have no : ∀ (i : Nat) s, (Sl.raw (.ref a) :: startR tot ds)[i]? = some s → isOwn s = false := fun i s e => by
    cases i with
    | zero =>
      simp at e; subst e; rfl
    | succ i =>
      rcases start_get r N hN (by simpa using e) with ⟨d, rfl, _⟩ | rfl
      · rfl
      · rfl
  refine ⟨by simp [g1.len], FrB.start, fun _ z => z.elim, fun _ h => h, fun _ h => h, fun _ z => z.elim, fun _ h => h, fun i s e => ?_, fun i j s t b e1 e2 q1 q2 _ _ => by rw [no i s e1] at q1; cases q1⟩
  cases i with
  | zero =>
    simp at e; subst e
    rfl
  | succ i =>
    have k := g1.slots i s (by simpa using e)
    rcases start_get r N hN (by simpa using e) with ⟨d, rfl, _⟩ | rfl
    · simpa [SlOk] using k
    · trivial
theorem good_self {H : Hp} {σ : St} {a : Addr} {n : Nat} (h : σ[(0 : Nat)]? = some (some (V.ref a))) (hl : σ.length = n + 1) : Good ⟨H, NO, NO, nolam, Str.empty⟩ NO σ H (.raw (.ref a) :: List.replicate n .nil) := by
  have no : ∀ (i : Nat) s, (Sl.raw (.ref a) :: List.replicate n .nil)[i]? = some s → isOwn s = false := fun i s e => by
    cases i with
    | zero =>
      simp at e; subst e; rfl
    | succ i =>
      rw [List.getElem?_cons_succ, List.getElem?_replicate] at e
      split at e
      · cases e; rfl
      · cases e
  refine ⟨by simp [hl], FrB.start, fun _ z => z.elim, fun _ h => h, fun _ h => h, fun _ z => z.elim, fun _ h => h, fun i s e => ?_, fun i j s t b e1 e2 q1 q2 _ _ => by rw [no i s e1] at q1; cases q1⟩
  cases i with
  | zero =>
    simp at e; subst e
    exact h
  | succ i =>
    rw [List.getElem?_cons_succ, List.getElem?_replicate] at e
    split at e
    · cases e; trivial
    · cases e
@[simp] def rdF (n tot : Nat) (b : Addr → D → D → Rho → Option Out) : Addr → D → List D → List D → Option (D × List D) := fun a rl sts ds => (sts.getLast?).bind fun ls => if ds.length = n then (b a rl ls (.raw (.ref a) :: startR tot ds)).bind fun r => (match r with
  | .rt d _ => some (d, sts)
  | .nx _ => some (.none, sts)) else none
@[simp] def kpF (tot : Nat) (b : Addr → D → Rho → Option Out) (g : Addr → D → Rho → Option D) : Addr → D → List D → List D → Option (D × List D) := fun a rl sts ds => if ds.length = 2 ∧ sts.length < 1000 then (b a rl (.raw (.ref a) :: startR tot ds)).bind fun r => (match r with
  | .nx ρ => (selfD a .none ρ).bind fun _ => (g a rl ρ).bind fun d => if flat d = true then some (.none, sts ++ [d]) else none
  | .rt _ _ => none) else none
@[simp] def muF (n tot : Nat) (pre : Addr → D → D → Rho → Option Out) (gs : Rho → Option (List D)) (g : Addr → D → Rho → Option D) (FK : Addr → D → List D → List D → Option (D × List D)) : Addr → D → List D → List D → Option (D × List D) := fun a rl sts ds => (sts.getLast?).bind fun ls =>
  if ds.length = n then (pre a rl ls (.raw (.ref a) :: startR tot ds)).bind fun r => (match r with
  | .nx ρ => (selfD a .none ρ).bind fun _ => (gs ρ).bind fun ks => if flatL ks = true then (FK a rl sts ks).bind fun p => (p.2.getLast?).bind fun ls' => (g a ls' (.raw (.ref a) :: List.replicate (ρ.length - 1) .nil)).bind fun d => some (d, p.2) else none
  | .rt _ _ => none) else none
def tM (B : Base) (F : Rho → Option Out) (t : TS) : TS := fun E σ H => ∃ O ρ ρ', Good B O σ H ρ ∧ F ρ = some (.nx ρ') ∧ ∀ σ' H' O', Stp O σ H ρ O' σ' H' ρ' → Good B O' σ' H' ρ' → t E σ' H'
section
variable {X : Cx} {B : Base} {st : Stmt} {sts : List Stmt} {F G : Rho → Option Out} {t : TS}
theorem tm_nil (h : PSs X sts t) : PSs X sts (tM B skipF t) := h.imp fun E σ H ⟨O, ρ, ρ', gd, e, q⟩ => by
  cases e
  exact q σ H O .refl gd
theorem tm_cons (h : DS X B st F) (h2 : PSs X sts (tM B G t)) : PSs X (st :: sts) (tM B (seqF F G) t) := (pss_cons h.ps h2).imp fun E σ H ⟨O, ρ, ρ', gd, e, q⟩ => by
  obtain ⟨r, e1, e2⟩ := bind_some e
  refine ⟨O, ρ, r, gd, e1, ?_⟩
  cases r with
  | rt d ρ1 => cases e2
  | nx ρ1 => exact fun σ1 H1 O1 s1 g1 => ⟨O1, ρ1, ρ', g1, e2, fun σ2 H2 O2 s2 g2 => q σ2 H2 O2 (s1.trans gd s2) g2⟩
end
def tEx (X : Cx) (C a : Addr) (g : D → Rho → Option D) : TE := fun σ H Q => ∃ B l rl sts ls, DocCx X B C a l rl sts ∧ sts.getLast? = some ls ∧ tP B .bas (g ls) σ H Q
theorem pe_ex {X : Cx} {C a : Addr} {e : Expr} {g : D → Rho → Option D} (h : ∀ B l rl sts ls, DocCx X B C a l rl sts → sts.getLast? = some ls → DP X B .bas e (g ls)) : PE X e (tEx X C a g) :=
  ⟨fun pins s σ H Q I ⟨B, l, rl, sts, ls, c, e1, q⟩ => (h B l rl sts ls c e1).pe.run pins s σ H Q I q⟩
section
variable {P : Program} {w : World} {K : PySem.W.Frag} {mg : Str → Option Value} {base : Heap} {C : Addr}
theorem rdm_mk {nm qual y : Str} {st : Stmt} {f : Addr} {fd : FuncData} {N ps : List Str} {k n tot : Nat} {b : Addr → D → D → Rho → Option Out} (F : L2.Fun K nm qual st f fd) (S : FnScope (y :: N) (y :: ps) (defScope st)) (hN : N.length = tot) (hn : ps.length = n) (cx : ClsX K C)
    (hb : ∀ (B : Base) (a l : Addr) (rl : D) (sts : List D) (ls : D) (cdv : Value) (A : Around) (outer : List PySem.Env) (s : Shared) (H : Hp) (E : XK), Room k (A.deeper (envOfC qual (defScope st) s.heap.objs.size f cdv)) →
      DocCx (cxOf CX0 P w K mg base (y :: N) qual (defScope st) f cdv A outer s H E).nox B C a l rl sts → sts.getLast? = some ls → DSs (cxOf CX0 P w K mg base (y :: N) qual (defScope st) f cdv A outer s H E).nox B (defBody st) (b a rl ls)) :
    FnOk P w K mg base CX0 (k + 1) f fd (y :: ps) (spM C (rdF n tot b)) := by
  have hpl : (y :: ps).length ≤ (y :: N).length := by have := congrArg List.length S.pre; rw [List.length_take] at this; omega
  refine F.ok S (fun vs H Q E h => ?_) (fun cdv A outer s H vs Q E hr h => ?_)
  · obtain ⟨a, l, rl, sts, ds, ws, r, sts', rfl, d, rw, fl, e, q⟩ := h
    obtain ⟨ls, e1, e2⟩ := bind_some e
    split at e2
    · next hl => rw [List.length_cons, List.length_cons, ← rw.length, hl, hn]
    · cases e2
  · obtain ⟨a, l, rl, sts, ds, ws, r, sts', rfl, d, rw, fl, e, q⟩ := h
    obtain ⟨ls, e1, e2⟩ := bind_some e
    split at e2
    · next hl =>
      obtain ⟨o, e3, e4⟩ := bind_some e2
      refine ⟨_, (hb ⟨H, NO, NO, nolam, Str.empty⟩ a l rl sts ls cdv A outer s H E hr ⟨cx, d, fun _ z => z, rfl⟩ e1).ps, NO, _, o, good_startM rw hN (by simp only [List.length_cons] at hpl; omega), e3, ?_⟩
      cases o with
      | nx ρ' =>
        cases e4
        exact fun σ' H' O' s3 g3 => q _ H' (.same (g3.frame.out fun _ z => z)) (d.same (g3.frame.out fun _ z => z)) (rep_none.mpr rfl)
      | rt z ρ' =>
        cases e4
        exact fun v σ' H' O' s3 g3 r3 => q v H' (.same (g3.frame.out fun _ z => z)) (d.same (g3.frame.out fun _ z => z)) r3
    · cases e2
theorem keep_mk {nm qual y : Str} {st : Stmt} {f : Addr} {fd : FuncData} {N ps : List Str} {k tot : Nat} {b : Addr → D → Rho → Option Out} {g : Addr → D → Rho → Option D} (F : L2.Fun K nm qual st f fd) (S : FnScope (y :: N) (y :: ps) (defScope st)) (hN : N.length = tot) (hn : ps.length = 2) (cx : ClsX K C)
    (hb : ∀ (B : Base) (a l : Addr) (rl : D) (sts : List D) (cdv : Value) (A : Around) (outer : List PySem.Env) (s : Shared) (H : Hp) (E : XK), Room k (A.deeper (envOfC qual (defScope st) s.heap.objs.size f cdv)) →
      DocCx (cxOf CX0 P w K mg base (y :: N) qual (defScope st) f cdv A outer s H E).nox B C a l rl sts →
      PSs (cxOf CX0 P w K mg base (y :: N) qual (defScope st) f cdv A outer s H E).nox (defBody st) (tM B (b a rl) (tDrop (tBM K "list" rAppend (tFld K (tVar 0) "states") (tCons (tP B .bas (g a rl)) tNil))))) :
    FnOk P w K mg base CX0 (k + 1) f fd (y :: ps) (spM C (kpF tot b g)) := by
  have hpl : (y :: ps).length ≤ (y :: N).length := by have := congrArg List.length S.pre; rw [List.length_take] at this; omega
  refine F.ok S (fun vs H Q E h => ?_) (fun cdv A outer s H vs Q E hr h => ?_)
  · obtain ⟨a, l, rl, sts, ds, ws, r, sts', rfl, d, rw, fl, e, q⟩ := h
    unfold kpF at e
    split at e
    · next hl => rw [List.length_cons, List.length_cons, ← rw.length, hl.1, hn]
    · cases e
  · obtain ⟨a, l, rl, sts, ds, ws, r, sts', rfl, d, rw, fl, e, q⟩ := h
    unfold kpF at e
    split at e
    · next hl =>
      obtain ⟨o, e3, e4⟩ := bind_some e
      cases o with
      | rt z ρ' => cases e4
      | nx ρ1 =>
        obtain ⟨_, e8, e7⟩ := bind_some e4
        obtain ⟨z, e5, e6⟩ := bind_some e7
        split at e6
        · next hf =>
          cases e6
          refine ⟨_, hb ⟨H, NO, NO, nolam, Str.empty⟩ a l rl sts cdv A outer s H E hr ⟨cx, d, fun _ z => z, rfl⟩, NO, _, ρ1, good_startM rw hN (by simp only [List.length_cons] at hpl; omega), e3, fun σ1 H1 O1 s1 g1 => ?_⟩
          have h0 := (slot0 g1 e8).2
          have sm : Same H H1 := g1.frame.out fun _ z => z
          have d1 := d.same sm
          obtain ⟨dx, vr, h1, r1⟩ := d1.ob
          obtain ⟨us, h2, r2⟩ := d1.ls
          refine ⟨_, h0, a, C, dx, _, .ref l, rfl, h1, cx.cls, cx.ns, dfs_states _ _, .inl ⟨rfl, us, .of h2⟩, O1, ρ1, z, g1, e5, fun v H2 s2 r3 => ?_⟩
          have len := r2.length
          refine ⟨l, us, v, rfl, rfl, s2 _ _ h2, by rw [← len, sizeLine_eq]; omega, ?_⟩
          have bt : But l H2 (upd H2 l (.lst (us ++ [v]))) := .of (.lst (s2 _ _ h2)) fun c o n e => by rw [upd_ne n]; exact e
          have d2 := d1.same s2
          have r4 : Rep NO H2 z v := r3
          exact q .non _ ((But.same (sm.trans s2)).trans bt) (d2.but bt upd_same ((bt.repL (s2 _ _ h2) d2.fs (r2.same s2)).append (.one (bt.rep (s2 _ _ h2) hf r4))) (by rw [flatL_app, d2.fs]; simp [flatL, hf])) (rep_none.mpr rfl)
        · cases e6
    · cases e
end
end DL

set_option autoImplicit false
namespace DL
open PySem PySem.Spec
open PyProof.Rows hiding St
open L2
/-! ## methods that keep a new state -/
theorem mut_core {X : Cx} {C a l : Addr} {rl r : D} {sts sts' ds : List D} {ws : List V} {y : Str} {N : List Str} {Q : VK} {n tot : Nat} {pre : Addr → D → D → Rho → Option Out} {gs : Rho → Option (List D)} {g : Addr → D → Rho → Option D} {FK : Addr → D → List D → List D → Option (D × List D)} {H : Hp}
    (hN : N.length = tot) (hnt : n ≤ tot) (cx : ClsX X.K C) (d : DocAt C H a l rl sts) (rw : RepL NO H ds ws) (e : muF n tot pre gs g FK a rl sts ds = some (r, sts')) (q : ∀ v H', But l H H' → DocAt C H' a l rl sts' → Rep NO H' r v → Q v H') :
    ∃ ls, sts.getLast? = some ls ∧ ∀ E : Ends, E.rt = Q → tM ⟨H, NO, NO, nolam, Str.empty⟩ (pre a rl ls) (tSeq (tDrop (tMeth C "keep" (spM C FK) [] E0 (tVar 0) (tPA ⟨H, NO, NO, nolam, Str.empty⟩ .bas gs))) (tRet (tEx X C a (g a)))) E (L2.start (y :: N) (.ref a :: ws)) H := by
  unfold muF at e
  obtain ⟨ls, e1, e2⟩ := bind_some e
  refine ⟨ls, e1, fun E hE => ?_⟩
  split at e2
  · next hl =>
    obtain ⟨o, e3, e4⟩ := bind_some e2
    cases o with
    | rt z ρ' => cases e4
    | nx ρ1 =>
      obtain ⟨_, e8, e7⟩ := bind_some e4
      obtain ⟨ks, e5, e6⟩ := bind_some e7
      split at e6
      · next hf =>
        obtain ⟨p, e9, e10⟩ := bind_some e6
        obtain ⟨ls', e11, e12⟩ := bind_some e10
        obtain ⟨z, e13, e14⟩ := bind_some e12
        cases e14
        refine ⟨NO, _, ρ1, good_startM rw hN (by omega), e3, fun σ1 H1 O1 s1 g1 => ?_⟩
        have h0 := (slot0 g1 e8).2
        have sm : Same H H1 := g1.frame.out fun _ z => z.elim
        have d1 := d.same sm
        obtain ⟨dx, vr, h1, r1⟩ := d1.ob
        refine ⟨_, h0, a, dx, _, rfl, h1, dfs_no _ _ (by decide +kernel) (by decide +kernel), O1, ρ1, ks, g1, e5, fun vs H2 s2 r3 => ?_⟩
        have r4 : RepL NO H2 ks vs := r3
        refine ⟨a, l, rl, sts, ks, vs ++ [], p.1, p.2, rfl, d1.same s2, by rw [List.append_nil]; exact r4, hf, e9, fun v H3 b3 d3 r5 => ?_⟩
        show tEx X C a (g a) σ1 H3 E.rt
        rw [hE]
        have hlen : σ1.length = (ρ1.length - 1) + 1 := by
          have k := g1.len
          have k2 : 0 < σ1.length := by
            by_cases hz : 0 < σ1.length
            · exact hz
            · rw [List.getElem?_eq_none (by omega)] at h0; cases h0
          omega
        exact ⟨⟨H3, NO, NO, nolam, Str.empty⟩, l, rl, p.2, ls', ⟨cx, d3, fun _ z => z, rfl⟩, e11, NO, _, _, good_self h0 hlen, e13, fun v H4 s4 r6 => q v H4 ((But.same (sm.trans s2)).trans (b3.trans (.same s4))) (d3.same s4) r6⟩
      · cases e6
  · cases e2
section
variable {P : Program} {w : World} {K : PySem.W.Frag} {mg : Str → Option Value} {base : Heap} {C : Addr}
theorem mut_mk {nm qual y : Str} {st : Stmt} {f : Addr} {fd : FuncData} {N ps : List Str} {k n tot : Nat} {pre : Addr → D → D → Rho → Option Out} {gs : Rho → Option (List D)} {g : Addr → D → Rho → Option D} {FK : Addr → D → List D → List D → Option (D × List D)}
    (F : L2.Fun K nm qual st f fd) (S : FnScope (y :: N) (y :: ps) (defScope st)) (hN : N.length = tot) (hn : ps.length = n) (cx : ClsX K C)
    (hb : ∀ (B : Base) (a l : Addr) (rl : D) (sts : List D) (ls : D) (cdv : Value) (A : Around) (outer : List PySem.Env) (s : Shared) (H : Hp) (E : XK), Room k (A.deeper (envOfC qual (defScope st) s.heap.objs.size f cdv)) →
      DocCx (cxOf CX0 P w K mg base (y :: N) qual (defScope st) f cdv A outer s H E).nox B C a l rl sts → sts.getLast? = some ls →
      PSs (cxOf CX0 P w K mg base (y :: N) qual (defScope st) f cdv A outer s H E).nox (defBody st) (tM B (pre a rl ls) (tSeq (tDrop (tMeth C "keep" (spM C FK) [] E0 (tVar 0) (tPA B .bas gs))) (tRet (tEx (cxOf CX0 P w K mg base (y :: N) qual (defScope st) f cdv A outer s H E).nox C a (g a)))))) :
    FnOk P w K mg base CX0 (k + 1) f fd (y :: ps) (spM C (muF n tot pre gs g FK)) := by
  have hpl : (y :: ps).length ≤ (y :: N).length := by have := congrArg List.length S.pre; rw [List.length_take] at this; omega
  simp only [List.length_cons] at hpl
  refine F.ok S (fun vs H Q E h => ?_) (fun cdv A outer s H vs Q E hr h => ?_)
  · obtain ⟨a, l, rl, sts, ds, ws, r, sts', rfl, d, rw, fl, e, q⟩ := h
    unfold muF at e
    obtain ⟨ls, e1, e2⟩ := bind_some e
    split at e2
    · next hl => rw [List.length_cons, List.length_cons, ← rw.length, hl, hn]
    · cases e2
  · obtain ⟨a, l, rl, sts, ds, ws, r, sts', rfl, d, rw, fl, e, q⟩ := h
    obtain ⟨ls, e1, h1⟩ := mut_core (X := (cxOf CX0 P w K mg base (y :: N) qual (defScope st) f cdv A outer s H E).nox) (y := y) hN (by omega) cx d rw e q
    exact ⟨_, hb ⟨H, NO, NO, nolam, Str.empty⟩ a l rl sts ls cdv A outer s H E hr ⟨cx, d, fun _ z => z, rfl⟩ e1, h1 _ rfl⟩
/-- .. with *times behind self -/
@[simp] def muV (F : Addr → D → List D → List D → Option (D × List D)) : Addr → D → List D → List D → Option (D × List D) := fun a rl sts ds => if ds.length ≤ 100000 then F a rl sts [.tuple ds] else none
theorem mutV_mk {nm qual y pv : Str} {st : Stmt} {f : Addr} {fd : FuncData} {N : List Str} {k tot : Nat} {pre : Addr → D → D → Rho → Option Out} {gs : Rho → Option (List D)} {g : Addr → D → Rho → Option D} {FK : Addr → D → List D → List D → Option (D × List D)}
    (F : L2.Fun K nm qual st f fd) (S : FnScope (y :: N) [y, pv] (defScope st)) (hbd : ∀ us rest : List Value, us.length = [y].length → bindArgs fd ⟨us ++ rest, []⟩ = (newTuple rest >>= fun t => pure ([y].zip us ++ [(pv, t)]))) (hN : N.length = tot) (cx : ClsX K C)
    (hb : ∀ (B : Base) (a l : Addr) (rl : D) (sts : List D) (ls : D) (cdv : Value) (A : Around) (outer : List PySem.Env) (s : Shared) (H : Hp) (E : XK), Room k (A.deeper (envOfC qual (defScope st) s.heap.objs.size f cdv)) →
      DocCx (cxOf CX0 P w K mg base (y :: N) qual (defScope st) f cdv A outer s H E).nox B C a l rl sts → sts.getLast? = some ls →
      PSs (cxOf CX0 P w K mg base (y :: N) qual (defScope st) f cdv A outer s H E).nox (defBody st) (tM B (pre a rl ls) (tSeq (tDrop (tMeth C "keep" (spM C FK) [] E0 (tVar 0) (tPA B .bas gs))) (tRet (tEx (cxOf CX0 P w K mg base (y :: N) qual (defScope st) f cdv A outer s H E).nox C a (g a)))))) :
    FnR P w K mg base CX0 (k + 1) f (spM C (muV (muF 1 tot pre gs g FK))) := by
  have hpl : [y, pv].length ≤ (y :: N).length := by have := congrArg List.length S.pre; rw [List.length_take] at this; omega
  simp only [List.length_cons, List.length_nil] at hpl
  obtain ⟨oc, od, kV, doc, pm, an, cdv, ct, osl, rfl, lk, hcd⟩ := F.ex
  refine FnR.imp (StX.fn_star (CX := CX0) (ps := [y]) (sp := spM C (muF 1 tot pre gs g FK)) lk hcd S StX.cxUp_none hbd fun A outer s H vs Q E hr h => ?_) fun vs H Q E h => ?_
  · obtain ⟨a, l, rl, sts, ds, ws, r, sts', rfl, d, rw, fl, e, q⟩ := h
    obtain ⟨ls, e1, h1⟩ := mut_core (X := (cxOf CX0 P w K mg base (y :: N) qual (defScope st) f cdv A outer s H E).nox) (y := y) hN (by omega) cx d rw e q
    exact ⟨_, (hb ⟨H, NO, NO, nolam, Str.empty⟩ a l rl sts ls cdv A outer s H E hr ⟨cx, d, fun _ z => z, rfl⟩ e1).nox, h1 _ rfl⟩
  · obtain ⟨a, l, rl, sts, ds, ws, r, sts', rfl, d, rw, fl, e, q⟩ := h
    unfold muV at e
    split at e
    · next hl =>
      have hlen := rw.length
      refine ⟨[.ref a], ws, rfl, rfl, line_le (by omega), fun p hp => ?_⟩
      have sm : Same H (upd H p (.tup ws)) := same_upd hp
      exact ⟨a, l, rl, sts, [.tuple ds], [.ref p], r, sts', rfl, d.same sm, .one (rep_tup hp rw), by simpa [flatL, flat] using fl, e, fun v H' b d' r' => q v H' ((But.same sm).trans b) d' r'⟩
    · cases e
end
/-! ## __init__ -/
def spI (C : Addr) (chk : Addr → D → Option D) (st0 : D) : Sp := fun vs H Q _ => ∃ a dx v rl rl', vs = [V.ref a, v] ∧ H a = some (.ins C dx []) ∧ Rep NO H rl v ∧ chk a rl = some rl' ∧ flat rl' = true ∧
  ∀ l H', H l = none → ButB a H H' → DocAt C H' a l rl' [st0] → Q .non H'
def tEx0 (g : Rho → Option D) : TE := fun σ H Q => ∃ B, tP B .bas g σ H Q
theorem pe_ex0 {X : Cx} {e : Expr} {g : Rho → Option D} (h : ∀ B, DP X B .bas e g) : PE X e (tEx0 g) := ⟨fun pins s σ H Q I ⟨B, q⟩ => (h B).pe.run pins s σ H Q I q⟩
@[simp] def inF (chk : Rho → Option Out) : Addr → D → Option D := fun a rl => (chk [.raw (.ref a), .dat rl]).bind fun r => (match r with
  | .nx ρ => (selfD a .none ρ).bind fun _ => varD .bas 1 ρ
  | .rt _ _ => none)
theorem init_mk {P : Program} {w : World} {K : PySem.W.Frag} {mg : Str → Option Value} {base : Heap} {C : Addr} {nm qual y z : Str} {st : Stmt} {f : Addr} {fd : FuncData} {k : Nat} {chk : Rho → Option Out} {g0 : Rho → Option D} {st0 : D}
    (F : L2.Fun K nm qual st f fd) (S : FnScope [y, z] [y, z] (defScope st)) (cx : ClsX K C) (hg0 : ∀ ρ, g0 ρ = some st0) (hst0 : flat st0 = true)
    (hb : ∀ (B : Base) (cdv : Value) (A : Around) (outer : List PySem.Env) (s : Shared) (H : Hp) (E : XK), Room k (A.deeper (envOfC qual (defScope st) s.heap.objs.size f cdv)) →
      PSs (cxOf CX0 P w K mg base [y, z] qual (defScope st) f cdv A outer s H E).nox (defBody st) (tSeq (tS B chk) (tSeq (sFld K (tVar 0) (tP B .bas (varD .bas 1)) "rule") (sFld K (tVar 0) (tLst (tCons (tEx0 g0) tNil)) "states")))) :
    FnOk P w K mg base CX0 (k + 1) f fd [y, z] (spI C (inF chk) st0) := by
  refine F.ok S (fun vs H Q E h => ?_) (fun cdv A outer s H vs Q E hr h => ?_)
  · obtain ⟨a, dx, v, rl, x, rfl, _⟩ := h
    rfl
  · obtain ⟨a, dx, v, rl, rl', rfl, ha, r, e, fl, q⟩ := h
    obtain ⟨o, e1, e2⟩ := bind_some e
    cases o with
    | rt d ρ => cases e2
    | nx ρ1 =>
      obtain ⟨_, e3, e4⟩ := bind_some e2
      have g0' : Good ⟨H, NO, NO, nolam, Str.empty⟩ NO (L2.start [y, z] [.ref a, v]) H (.raw (.ref a) :: startR 1 [rl]) := good_startM (.one r) rfl (by simp)
      refine ⟨_, hb ⟨H, NO, NO, nolam, Str.empty⟩ cdv A outer s H E hr, NO, [.raw (.ref a), .dat rl], .nx ρ1, g0', e1, fun σ1 H1 O1 s1 g1 => ?_⟩
      have h0 := (slot0 g1 e3).2
      have sm : Same H H1 := g1.frame.out fun _ z => z.elim
      refine ⟨O1, ρ1, rl', g1, e4, fun u H2 s2 r2 => ⟨_, h0, a, C, dx, [], rfl, s2 _ _ (sm _ _ ha), cx.cls, cx.nr, (by show 0 < 1000; decide), ?_⟩⟩
      have r3 : Rep NO H2 rl' u := r2
      have hlen : σ1.length = (σ1.length - 1) + 1 := by
        have k2 : 0 < σ1.length := by
          by_cases hz : 0 < σ1.length
          · exact hz
          · rw [List.getElem?_eq_none (by omega)] at h0; cases h0
        omega
      refine ⟨⟨_, NO, NO, nolam, Str.empty⟩, NO, _, st0, good_self h0 hlen, hg0 _, fun v4 H4 s4 r4 => ⟨(by show 1 ≤ sizeLine; rw [sizeLine_eq]; omega), fun l hl => ?_⟩⟩
      have ha4 := s4 a _ upd_same
      have nla : l ≠ a := by
        rintro rfl
        rw [hl] at ha4; cases ha4
      refine ⟨_, h0, a, C, dx, _, rfl, by rw [upd_ne nla.symm]; exact ha4, cx.cls, cx.ns, (by show 1 < 1000; decide), ?_⟩
      have hH2 : H2 a = some (.ins C dx []) := s2 _ _ (sm _ _ ha)
      -- from H2 to the end, apart from a
      have fr : ButB a H2 (upd (upd H4 l (.lst [v4])) a (.ins C dx (putF "states" (.ref l) (putF "rule" u [])))) := ⟨fun c o n e t => by
        have e5 := s4.keep c o (by rw [upd_ne n]; exact e) t
        rw [upd_ne n, upd_ne (ne_of_none e5 hl)]
        exact e5, (((Tb.upd (.ins hH2)).trans s4.tb).put (.none hl)).put (Pl.ins (C := C) (dx := dx) (fs := putF "rule" u []) (by rw [upd_ne nla.symm]; exact ha4))⟩
      have e0 : Rep NO (upd (upd H4 l (.lst [v4])) a (.ins C dx (putF "states" (.ref l) (putF "rule" u [])))) rl' u := rep_tups (fun b vs ez => fr.keep b _ (by
        rintro rfl
        rw [hH2] at ez; cases ez) ez) rl' u fl r3
      have e5 : Rep NO (upd (upd H4 l (.lst [v4])) a (.ins C dx (putF "states" (.ref l) (putF "rule" u [])))) st0 v4 := rep_tups (fun b vs ez => by
        have n1 : b ≠ a := by
          rintro rfl
          rw [ha4] at ez; cases ez
        rw [upd_ne n1, upd_ne (ne_of_none ez hl)]
        exact ez) st0 v4 hst0 r4
      refine q l _ ?_ ⟨fun c o n e t => fr.keep c o n (s2.keep _ _ (sm.keep _ _ e t) t) t, (sm.trans s2).tb.trans fr.tb⟩ ⟨⟨dx, u, upd_same, e0⟩, ⟨[v4], by rw [upd_ne nla]; exact upd_same, .one e5⟩, fl, by simp [flatL, hst0]⟩
      have hl2 : upd H2 a (.ins C dx (putF "rule" u [])) l = none := s4.free hl
      rw [upd_ne nla] at hl2
      exact (sm.trans s2).free hl2
end DL

set_option autoImplicit false
namespace DL
section
open PySem PySem.W PySem.Calls PyProof.Rows Builtin
theorem callLen_own {prog : Program} {w : World} {A : Around} {E : Value → Shared → Prop} {s : Shared} {K : Frag} {x C f : Addr} {ox : Obj} {od : Option Obj} {Q : Value → Shared → Prop} (X : K.In s.heap) (I : InstAt s.heap x ox C od) (hs : findIn K (.ref C) "__len__" = some (some (.ref f))) (hf : isFn K (.ref f) = true)
    (h : wpAny (model prog w) A.in1 (call (.ref f) [.ref x]) (PySem.W.LenBack Q) E s) : wpAny (model prog w) A (call (.builtin "len") [.ref x]) Q E s := by
  refine Calls.call_function_entry kind_len plain_len entry_len (args_len1 _) ?_
  unfold Builtin.«len»
  refine wpAny_bind (m := oneArg "len" _) (wpAny_pure ?_)
  refine wpAny_bind (m := callSpecial? (.ref x) (Str.ofString "__len__")) (special_fn X I hs (beq_iff_eq.mp hf) (wpAny_mono h (fun r s' hr => ?_) fun _ _ y => y))
  cases r <;> first | exact hr.elim | skip
  rename_i n u
  obtain ⟨⟨h0, h1⟩, hq⟩ := hr
  refine wpAny_bind (wpAny_holding (wpAny_pure ?_))
  refine wpAny_bind (wpAny_letGo ?_)
  show wpAny _ _ (if n < 0 then _ else _) _ _ _
  rw [if_neg (by omega)]
  show wpAny _ _ (if n ≥ 2 ^ 63 then _ else _) _ _ _
  rw [if_neg (by omega)]
  exact wpAny_bind (wpAny_mkInt (wpAny_pure ⟨_, rfl, hq⟩))
end
open PySem PySem.Spec
open PyProof.Rows hiding St
open L2
/-! ## an own class's methods with *args, its __bool__, __len__, __contains__ -/
section
variable {X : Cx} {k : Nat} {C g : Addr} {sp : Sp} {m : Str} {e o : Expr} {es : List Expr} {ta : TE} {t : TA} {pos apos : Pos}
theorem pe_methR {pl : Sem Bool} (he : PE X o ta) (c : Cls X.K C) (hm : Meth X.K C m g) (F : FnR X.prog X.w X.K X.mg X.base CX0 k g sp) (hr : Room k X.A) (ha : PA X (e :: es) t)
    (hst : starEach (e :: es) X.env = (false, eval e X.env) :: starEach es X.env := by rfl) (hpl : (backTo pos (starEach es X.env)).any (·.1) = false := by rfl)
    (ht : eval (.Call (.Attribute o m apos) (e :: es) [] pos) X.env = (do
      let ov ← eval o X.env
      standAt apos.atName
      let (f, first) ← holding [ov] (getMethod ov m pl)
      callWith pos f first (backTo pos (starEach (e :: es) X.env)) (backToKw pos (keywordEach [] X.env))) := by rfl) :
    PE X (.Call (.Attribute o m apos) (e :: es) [] pos) (tMeth C m sp [] E0 ta t) := by
  refine ⟨fun pins s σ H Q I h => ?_⟩
  refine PySem.W.methodCall_KW (pl := pl) (thn (he.run pins s σ H _ I h) fun u s1 ⟨x, H1, I1, rx, a, dx, fs, ex, ea, l, q⟩ => ?_) ht
  subst ex
  obtain rfl : u = Value.ref a := rx
  refine getmeth_ok I1 ea c hm l ?_
  refine PySem.W.callWith_K (first := [.ref a]) (h₀ := X.base) I.ok.mod.kin hm.kp (thn (ha.run pos pins s1 σ H1 _ I1 q) fun us s2 ⟨vs, H2, I2, r, q2⟩ => ⟨I2.kIn, ?_⟩) hst hpl
  have q3 : sp (V.ref a :: (vs ++ [])) H2 Q E0 := q2
  rw [List.append_nil] at q3
  exact wpAny_call (run_fnR (us := .ref a :: us) (vs := .ref a :: vs) F hr pass0 I2 (.cons rfl r) q3)
structure OwnFn (K : PySem.W.Frag) (C : Addr) (m : Str) (g : Addr) : Prop where
  at_ : PySem.W.findIn K (.ref C) m = some (some (.ref g))
  fn : PySem.W.isFn K (.ref g) = true
def tOwnB (C : Addr) (sp : Sp) (ta : TE) : TT := fun σ H Q => ta σ H fun x H1 => ∃ a dx fs, x = .ref a ∧ H1 a = some (.ins C dx fs) ∧ sp [.ref a] H1 (fun v H2 => ∃ c, v = .bl c ∧ Q c H2) E0
theorem pt_own (he : PE X e ta) (O : OwnFn X.K C "__bool__" g) (F : FnR X.prog X.w X.K X.mg X.base CX0 k g sp) (hr : Room k X.A) (hi : ∀ whole, isTrue e X.env whole = (do let v ← whole; standAt e.pos; holding [v] (truthy v)) := by intro _; rfl) : PT X e (tOwnB C sp ta) := by
  refine ⟨fun pins s σ H Q I hw => ?_⟩
  refine isTrue_plain (thn (he.run pins s σ H _ I hw) fun v s1 ⟨x, H1, I1, r1, a, dx, fs, ex, ea, q⟩ => ?_) (hi _)
  subst ex
  obtain rfl : v = Value.ref a := r1
  obtain ⟨mA, Ob, _⟩ := ins_get I1.hok ea
  obtain ⟨od, J, _⟩ := Ob.look
  unfold truthy
  refine wpAny_bind (m := callSpecial? (.ref a) (Str.ofString "__bool__")) (PySem.W.special_fn I1.kIn J O.at_ (beq_iff_eq.mp O.fn) (thn (wpAny_call (run_fnR (us := [.ref a]) (vs := [.ref a]) F hr pass0 I1 (.cons rfl .nil) q)) fun r s2 ⟨z, H2, I2, rz, c, ez, q2⟩ => ?_))
  subst ez
  obtain rfl : r = Value.bool c := rz
  exact wpAny_pure ⟨H2, I2, q2⟩
def rInOwn (C : Addr) (sp : Sp) (f : Bool → Bool) : V → V → Hp → VK → Prop := fun x y H Q => ∃ a dx fs, y = .ref a ∧ H a = some (.ins C dx fs) ∧ sp [.ref a, x] H (fun v H2 => ∃ c, v = .bl c ∧ Q (.bl (f c)) H2) E0
theorem contains_own {pins : List (Addr × Obj)} {σ : St} {H : Hp} {s : Shared} {a : Addr} {x : V} {v : Value} {Q : Bool → Hp → Prop} {dx : Addr} {fs : List (Str × V)} (O : OwnFn X.K C "__contains__" g) (F : FnR X.prog X.w X.K X.mg X.base CX0 k g sp) (hr : Room k X.A) (I : Inv X pins σ H s) (rx : RelV x v)
    (ea : H a = some (.ins C dx fs)) (q : sp [.ref a, x] H (fun v H2 => ∃ c, v = .bl c ∧ Q c H2) E0) : wpAny (model X.prog X.w) X.A (contains (.ref a) v) (TP X pins σ Q) X.xe s := by
  obtain ⟨mA, Ob, _⟩ := ins_get I.hok ea
  obtain ⟨od, J, _⟩ := Ob.look
  unfold contains
  refine wpAny_holding (wpAny_bind (wpAny_bind (J.type.here ((PySem.W.looks_findIn I.kIn O.at_).here ?_))))
  rw [if_neg (by simp)]
  refine wpAny_bind (PySem.W.unlessNone_K I.kIn J O.at_ O.fn (thn (wpAny_call (run_fnR (us := [.ref a, v]) (vs := [.ref a, x]) F hr pass0 I (.cons rfl (.cons rx .nil)) q)) fun r s2 ⟨z, H2, I2, rz, c, ez, q2⟩ => ?_))
  subst ez
  obtain rfl : r = Value.bool c := rz
  exact wpAny_truthy_bool ⟨H2, I2, q2⟩
theorem op_inOwn (O : OwnFn X.K C "__contains__" g) (F : FnR X.prog X.w X.K X.mg X.base CX0 k g sp) (hr : Room k X.A) : OpR X (compareOp .In) (rInOwn C sp id) := by
  intro pins s σ H x y v u Q I rx ry ⟨a, dx, fs, ey, ea, q⟩
  subst ey
  obtain rfl : u = Value.ref a := ry
  exact wpAny_bind (thn (contains_own (Q := fun c H2 => Q (.bl c) H2) O F hr I rx ea q) fun c s2 ⟨H2, I2, q2⟩ => wpAny_pure ⟨.bl c, H2, I2, rfl, q2⟩)
theorem op_notInOwn (O : OwnFn X.K C "__contains__" g) (F : FnR X.prog X.w X.K X.mg X.base CX0 k g sp) (hr : Room k X.A) : OpR X (compareOp .NotIn) (rInOwn C sp not) := by
  intro pins s σ H x y v u Q I rx ry ⟨a, dx, fs, ey, ea, q⟩
  subst ey
  obtain rfl : u = Value.ref a := ry
  exact wpAny_bind (thn (contains_own (Q := fun c H2 => Q (.bl (!c)) H2) O F hr I rx ea q) fun c s2 ⟨H2, I2, q2⟩ => wpAny_pure ⟨.bl (!c), H2, I2, rfl, q2⟩)
theorem call_lenOwn (O : OwnFn X.K C "__len__" g) (F : FnR X.prog X.w X.K X.mg X.base CX0 k g sp) (hr : Room (k + 1) X.A) : CallR X (.builtin "len") (fun xs H Q => ∃ a dx fs, xs = [.ref a] ∧ H a = some (.ins C dx fs) ∧ sp [.ref a] H (fun v H2 => ∃ n : Int, v = .int n ∧ 0 ≤ n ∧ n < 2 ^ 63 ∧ Q (.int n) H2) E0) := by
  intro pins s σ H xs us Q I r ⟨a, dx, fs, ex, ea, q⟩
  subst ex
  obtain ⟨u, rfl, rx⟩ := vals1 r
  obtain rfl : u = Value.ref a := rx
  obtain ⟨mA, Ob, _⟩ := ins_get I.hok ea
  obtain ⟨od, J, _⟩ := Ob.look
  refine callLen_own (K := X.K) I.kIn J O.at_ O.fn (wpAny_call (codeAny_mono (F X.A.in1 X.stack s H [.ref a] [.ref a] _ E0 hr.in1 I.env0.in1 (.cons rfl .nil) q) fun r s' hq => ?_))
  cases r with
  | error er => exact (hq : False).elim
  | ok fl =>
    cases fl with
    | ret u =>
      obtain ⟨v, H', I3, rv, n, ev, h0, h1, q3⟩ := I.after hq
      subst ev
      obtain ⟨tk, rfl⟩ := rv
      exact ⟨⟨h0, h1⟩, .int n, H', I3.tok _, ⟨_, rfl⟩, q3⟩
    | next => exact False.elim hq
    | brk => exact False.elim hq
    | cont => exact False.elim hq
end
end DL

set_option autoImplicit false
namespace DL
open PySem PySem.Spec
open PyProof.Rows hiding St
open L2
/-! ## bool(a bool) -/
@[simp] def boolBD : List D → Option D
  | [.bool b] => some (.bool b)
  | _ => none
theorem n_boolB : OpN (fun xs H Q => (∃ i, xs = [.int i] ∧ Q (.bl (i != 0)) H) ∨ ∃ k, xs = [.bl k] ∧ Q (.bl k) H) boolBD := by
  intro O H ds z xs Q t hf rx q
  unfold boolBD at hf
  split at hf
  · cases hf
    obtain ⟨v, rfl, r⟩ := repL_one rx
    rw [rep_bool.mp r]
    exact .inr ⟨_, rfl, q _ H (Same.refl H) (rep_bool.mpr rfl)⟩
  · cases hf
/-! ## an int in a tuple of ints -/
@[simp] def inTD : D → D → Option D
  | .int i, .tuple ds => (intsOf ds).bind fun ns => some (.bool (ns.contains i))
  | _, _ => none
theorem inV_ints (i : Int) (ns : List Int) : inV (.int i) (ns.map V.int) = ns.contains i := by
  induction ns with
  | nil => rfl
  | cons n ns ih =>
    unfold inV at ih ⊢
    rw [List.map_cons, List.any_cons, ih, List.contains_cons]
    congr 1
    show (n == i) = (i == n)
    exact Bool.eq_iff_iff.mpr ⟨fun h => by rw [beq_iff_eq] at h ⊢; exact h.symm, fun h => by rw [beq_iff_eq] at h ⊢; exact h.symm⟩
theorem flat_ints : ∀ (ns : List Int), (ns.map V.int).all flatV = true
  | [] => rfl
  | n :: ns => by rw [List.map_cons, List.all_cons, flat_ints ns]; rfl
theorem o_inT {K : PySem.W.Frag} : Op2 (rIn K false) inTD := by
  intro O H d e z x y Q t hf rx ry q
  unfold inTD at hf
  split at hf
  · next i ds =>
    obtain ⟨ns, e1, e2⟩ := bind_some hf
    cases e2
    simp only [Rep] at ry
    obtain ⟨p, vs, rfl, hp, r⟩ := ry
    have e4 := ints_rep r e1
    subst e4
    rw [rep_int.mp rx]
    refine ⟨p, ns.map V.int, rfl, .inr (.of hp), rfl, flat_ints ns, ?_⟩
    rw [inV_ints]
    exact q _ H (Same.refl H) (rep_bool.mpr rfl)
  · cases hf
/-! ## a class's methods as the top has made them -/
structure MthAt (K : PySem.W.Frag) (C : Addr) (m qual : Str) (st : Stmt) (ps : List Str) : Prop where
  ex : ∃ f fd, L2.Fun K m qual st f fd ∧ Binds K fd ps [] ∧ PySem.W.findIn K (.ref C) m = some (some (.ref f)) ∧ PySem.W.isFn K (.ref f) = true ∧ PySem.W.fnIn K f = true
structure MStarAt (K : PySem.W.Frag) (C : Addr) (m qual : Str) (st : Stmt) (ps : List Str) (pv : Str) : Prop where
  ex : ∃ f fd, L2.Fun K m qual st f fd ∧ (∀ us rest : List Value, us.length = ps.length → bindArgs fd ⟨us ++ rest, []⟩ = (newTuple rest >>= fun t => pure (ps.zip us ++ [(pv, t)]))) ∧ PySem.W.findIn K (.ref C) m = some (some (.ref f)) ∧ PySem.W.isFn K (.ref f) = true ∧ PySem.W.fnIn K f = true
structure PrpAt (K : PySem.W.Frag) (C : Addr) (m qual : Str) (st : Stmt) : Prop where
  ex : ∃ p f fd, L2.Fun K m qual st f fd ∧ Binds K fd ["self"] [] ∧ PropOf K C m p f
structure MFn (P : Program) (w : World) (K : PySem.W.Frag) (mg : Str → Option Value) (base : Heap) (k : Nat) (C : Addr) (m : Str) (F : Addr → D → List D → List D → Option (D × List D)) : Prop where
  ex : ∃ f, FnR P w K mg base CX0 k f (spM C F) ∧ Meth K C m f ∧ PySem.W.fnIn K f = true
structure PFn (P : Program) (w : World) (K : PySem.W.Frag) (mg : Str → Option Value) (base : Heap) (k : Nat) (C : Addr) (m : Str) (F : Addr → D → List D → List D → Option (D × List D)) : Prop where
  ex : ∃ p f fd ps, FnOk P w K mg base CX0 k f fd ps (spM C F) ∧ Binds K fd ps [] ∧ PropOf K C m p f
structure IFn (P : Program) (w : World) (K : PySem.W.Frag) (mg : Str → Option Value) (base : Heap) (k : Nat) (C : Addr) (x : Str) (chk : Addr → D → Option D) (st0 : D) : Prop where
  ex : ∃ f fd ps, FnOk P w K mg base CX0 k f fd ps (spI C chk st0) ∧ Binds K fd ps [] ∧ Mk K C f ∧ mg x = some (.ref C)
section
variable {P : Program} {w : World} {K : PySem.W.Frag} {mg : Str → Option Value} {base : Heap} {k : Nat} {C : Addr} {m qual : Str} {F : Addr → D → List D → List D → Option (D × List D)} {st : Stmt} {ps : List Str} {pv : Str}
theorem mfn_of {f : Addr} {fd : FuncData} (Fu : L2.Fun K m qual st f fd) (b : Binds K fd ps []) (h1 : PySem.W.findIn K (.ref C) m = some (some (.ref f))) (h2 : PySem.W.isFn K (.ref f) = true) (h3 : PySem.W.fnIn K f = true) (G : FnOk P w K mg base CX0 k f fd ps (spM C F)) : MFn P w K mg base k C m F :=
  ⟨f, (G.raw b .nil).imp fun vs H Q E h => by rw [List.append_nil]; exact h, ⟨h1, h2, Fu.kp⟩, h3⟩
theorem mfn_star {f : Addr} {fd : FuncData} (Fu : L2.Fun K m qual st f fd) (h1 : PySem.W.findIn K (.ref C) m = some (some (.ref f))) (h2 : PySem.W.isFn K (.ref f) = true) (h3 : PySem.W.fnIn K f = true) (G : FnR P w K mg base CX0 k f (spM C F)) : MFn P w K mg base k C m F :=
  ⟨f, G, ⟨h1, h2, Fu.kp⟩, h3⟩
theorem MFn.mono {j : Nat} (G : MFn P w K mg base j C m F) (h : j ≤ k) : MFn P w K mg base k C m F := by
  obtain ⟨f, a, b, c⟩ := G.ex
  exact ⟨f, a.mono h, b, c⟩
theorem MFn.own (G : MFn P w K mg base k C m F) : ∃ f, FnR P w K mg base CX0 k f (spM C F) ∧ OwnFn K C m f := by
  obtain ⟨f, a, b, c⟩ := G.ex
  exact ⟨f, a, b.at_, b.fn⟩
theorem MFn.call (G : MFn P w K mg base k C "__call__" F) : ∃ f, FnR P w K mg base CX0 k f (spM C F) ∧ StX.CallO K C f := by
  obtain ⟨f, a, b, c⟩ := G.ex
  exact ⟨f, a, b.at_, b.fn, c⟩
end
/-! ## the calls that a body makes -/
theorem pe_keep {X : Cx} {B : Base} {C : Addr} {k j : Nat} {F : Addr → D → List D → List D → Option (D × List D)} {gs : Rho → Option (List D)} {o e : Expr} {es : List Expr} {pos apos : Pos} {m : Str} {pl : Sem Bool} (cx : ClsX X.K C) (G : MFn X.prog X.w X.K X.mg X.base k C m F) (hr : Room j X.A) (hk : k ≤ j) (ho : PE X o (tVar 0)) (ha : DPA X B .bas (e :: es) gs)
    (hst : starEach (e :: es) X.env = (false, eval e X.env) :: starEach es X.env := by rfl) (hpl : (backTo pos (starEach es X.env)).any (·.1) = false := by rfl)
    (ht : eval (.Call (.Attribute o m apos) (e :: es) [] pos) X.env = (do
      let ov ← eval o X.env
      standAt apos.atName
      let (f, first) ← holding [ov] (getMethod ov m pl)
      callWith pos f first (backTo pos (starEach (e :: es) X.env)) (backToKw pos (keywordEach [] X.env))) := by rfl) :
    PE X (.Call (.Attribute o m apos) (e :: es) [] pos) (tMeth C m (spM C F) [] E0 (tVar 0) (tPA B .bas gs)) := by
  obtain ⟨f, R, M, _⟩ := G.ex
  exact pe_methR (pl := pl) ho cx.cls M R (hr.mono hk) ha.pa hst hpl ht
/-! ## a short run of one document -/
def docF : Rho → Option Out := fun ρ => if ρ.length = 1 then some (.rt (.bool true) ρ) else none
def tDoc (X : Cx) (C : Addr) (chk : Addr → D → Option D) (st0 : D) (Fe Fc Fb Fi Fs Fl Ft : Addr → D → List D → List D → Option (D × List D)) : TS :=
  tSeq (tAsg (tMake C (spI C chk st0) [] E0 (tCons (tTup (tCons (tC (.int 3)) (tCons (tC (.int 10)) tNil))) tNil)) (gName 0))
  (tSeq (tIfS (tOr (tTest (tOp (rNeD X.K) (tMeth C "edit" (spM C Fe) [] E0 (tVar 0) (tCons (tC (.int 0)) (tCons (tC (.int 2)) tNil))) (tC (.int 2))))
    (tOr (tTest (tOp (rNeD X.K) (StX.tCallO X C (spM C Fc) E0 (tVar 0) (tCons (tC (.int 12)) tNil)) (tC (.int 0))))
    (tOr (tOwnB C (spM C Fb) (tVar 0)) (tTest (tOp (rInOwn C (spM C Fi) not) (tC (.int 12)) (tVar 0)))))) (tRet (tC (.bl false))) tNext)
  (tRet (tAndV (tOp (rEqD X.K) (tProp C (spM C Fs) [] E0 (tVar 0)) (tTup (tCons (tC (.int 12)) tNil)))
    (tAndV (tOp (rEqD X.K) (tCB (fun xs H Q => ∃ a dx fs, xs = [V.ref a] ∧ H a = some (.ins C dx fs) ∧ spM C Fl [.ref a] H (fun v H2 => ∃ n : Int, v = .int n ∧ 0 ≤ n ∧ n < 2 ^ 63 ∧ Q (.int n) H2) E0) (tCons (tVar 0) tNil)) (tC (.int 2)))
    (tOp (rEqD X.K) (tProp C (spM C Ft) [] E0 (tVar 0)) (tC (.int 12)))))))
theorem Same.madeB {H H1 : Hp} {x dx C : Addr} (nx : H x = none) (nd : H dx = none) (k : ButB x (upd (upd H dx (.own x)) x (.ins C dx [])) H1) : Same H H1 :=
  ⟨fun b o e t => k.keep b o (ne_of_none e nx) (by rw [upd_ne (ne_of_none e nx), upd_ne (ne_of_none e nd)]; exact e) t, ((Tb.upd (.none nd)).put (by
    by_cases z : x = dx
    · rw [z]; exact .is upd_same (fun φ z => by cases z) fun ps z => by cases z
    · exact .none (by rw [upd_ne z]; exact nx))).trans k.tb⟩
theorem noOtr {H : Hp} : Otr NO H := fun _ z => z.elim
theorem ne_use {K : PySem.W.Frag} {H : Hp} {d e : D} {v y : V} {c : Bool} {Q : VK} (r1 : Rep NO H d v) (r2 : Rep NO H e y) (hf : neD d e = some (.bool c)) (h : ∀ H', Same H H' → Q (.bl c) H') : rNeD K v y H Q :=
  o_ne NO H d e (.bool c) v y Q noOtr hf r1 r2 fun z H' s r => by rw [rep_bool.mp r]; exact h H' s
theorem eq_use {K : PySem.W.Frag} {H : Hp} {d e : D} {v y : V} {c : Bool} {Q : VK} (r1 : Rep NO H d v) (r2 : Rep NO H e y) (hf : eqD d e = some (.bool c)) (h : ∀ H', Same H H' → Q (.bl c) H') : rEqD K v y H Q :=
  o_eq NO H d e (.bool c) v y Q noOtr hf r1 r2 fun z H' s r => by rw [rep_bool.mp r]; exact h H' s
theorem ne_tC {K : PySem.W.Frag} {H : Hp} {d : D} {i : Int} {v : V} {c : Bool} {Q : VK} {σ : L2.St} (r1 : Rep NO H d v) (hf : neD d (.int i) = some (.bool c)) (h : ∀ H', Same H H' → Q (.bl c) H') : tC (.int i) σ H (fun y H2 => rNeD K v y H2 Q) := ne_use r1 (rep_int.mpr rfl) hf h
theorem eq_tC {K : PySem.W.Frag} {H : Hp} {d : D} {i : Int} {v : V} {c : Bool} {Q : VK} {σ : L2.St} (r1 : Rep NO H d v) (hf : eqD d (.int i) = some (.bool c)) (h : ∀ H', Same H H' → Q (.bl c) H') : tC (.int i) σ H (fun y H2 => rEqD K v y H2 Q) := eq_use r1 (rep_int.mpr rfl) hf h
theorem eq_tT {K : PySem.W.Frag} {H : Hp} {d : D} {i : Int} {v : V} {c : Bool} {Q : VK} {σ : L2.St} (r1 : Rep NO H d v) (hf : eqD d (.tuple [.int i]) = some (.bool c)) (h : ∀ H', Same H H' → Q (.bl c) H') : tTup (tCons (tC (.int i)) tNil) σ H (fun y H2 => rEqD K v y H2 Q) :=
  ⟨(by show 1 ≤ sizeLine; rw [sizeLine_eq]; omega), fun p hp => eq_use (r1.same (same_upd hp)) (rep_tup hp (.one (rep_int.mpr rfl))) hf fun H' s => h H' ((same_upd hp).trans s)⟩
theorem ne2 : neD (.int 2) (.int 2) = some (.bool false) := by rfl
theorem ne0 : neD (.int 0) (.int 0) = some (.bool false) := by rfl
theorem eq12 : eqD (.tuple [.int 12]) (.tuple [.int 12]) = some (.bool true) := by rfl
theorem eq2 : eqD (.int 2) (.int 2) = some (.bool true) := by rfl
theorem eqt : eqD (.int 12) (.int 12) = some (.bool true) := by rfl
theorem doc_read {X : Cx} {B : Base} {C : Addr} {chk : Addr → D → Option D} {st0 rl : D} {sts1 sts2 : List D} {Fe Fc Fb Fi Fs Fl Ft : Addr → D → List D → List D → Option (D × List D)} (cx : ClsX X.K C)
    (hchk : ∀ a, chk a (.tuple [.int 3, .int 10]) = some rl) (frl : flat rl = true) (he : ∀ a, Fe a rl [st0] [.int 0, .int 2] = some (.int 2, sts1)) (hc : ∀ a, Fc a rl sts1 [.int 12] = some (.int 0, sts2)) (hb : ∀ a, Fb a rl sts2 [] = some (.bool false, sts2))
    (hi : ∀ a, Fi a rl sts2 [.int 12] = some (.bool true, sts2)) (hs : ∀ a, Fs a rl sts2 [] = some (.tuple [.int 12], sts2)) (hl : ∀ a, Fl a rl sts2 [] = some (.int 2, sts2)) (ht : ∀ a, Ft a rl sts2 [] = some (.int 12, sts2)) :
    ∀ (E : Ends) (σ : L2.St) (H : Hp), tS B docF E σ H → tDoc X C chk st0 Fe Fc Fb Fi Fs Fl Ft E σ H := by
  intro E σ H ⟨O, ρ, r, gd, e, q⟩
  unfold docF at e
  split at e
  case isFalse => cases e
  case isTrue hlen =>
  cases e
  have fin : ∀ H', Same H H' → E.rt (.bl true) H' := fun H' s => q (.bl true) σ H' O (.ext (.of gd s)) (gd.same s) (rep_bool.mpr rfl)
  refine ⟨(by show 2 ≤ sizeLine; rw [sizeLine_eq]; omega), fun t htn => ?_⟩
  intro x dx nx ndx nex
  have n1 : t ≠ x := by
    rintro rfl
    rw [upd_same] at nx; cases nx
  have n2 : t ≠ dx := by
    rintro rfl
    rw [upd_same] at ndx; cases ndx
  refine ⟨x, dx, .ref t, .tuple [.int 3, .int 10], rl, rfl, upd_same, ?_, hchk x, frl, fun l H2 hln kp D2 => ⟨rfl, ?_⟩⟩
  · simp only [Rep, RepL]
    exact ⟨t, _, rfl, by rw [upd_ne n1, upd_ne n2]; exact upd_same, _, _, rfl, rfl, _, _, rfl, rfl, rfl⟩
  have sm : Same H H2 := (same_upd htn).trans (Same.madeB nx ndx kp)
  have hx : upd (upd H t (.tup [V.int 3, V.int 10])) dx (.own x) x = none := by rw [upd_ne nex.symm]; exact nx
  have hlH : H l = none := ((same_upd htn).trans ((same_upd ndx).trans (same_upd hx))).free hln
  have sB : ∀ {H'}, But l H2 H' → Same H H' := fun b => ⟨fun c o e t => b.keep c o (ne_of_none e hlH) (sm.keep c o e t) t, sm.tb.trans b.tb⟩
  have h0 : (σ.set 0 (some (V.ref x)))[(0 : Nat)]? = some (some (V.ref x)) := by
    rw [List.getElem?_set_self (by rw [gd.len, hlen]; omega)]
  show tSeq _ _ E (σ.set 0 (some (V.ref x))) H2
  generalize σ.set 0 (some (V.ref x)) = σ' at h0
  have ins : ∀ {H' : Hp} {sts : List D}, DocAt C H' x l rl sts → ∃ dx fs, H' x = some (.ins C dx fs) := fun d => by
    obtain ⟨dx, vr, h, _⟩ := d.ob
    exact ⟨dx, _, h⟩
  -- edit(0, 2) != 2
  obtain ⟨d1, v1, i1, _⟩ := D2.ob
  refine ⟨_, h0, x, d1, _, rfl, i1, dfs_no _ _ (by decide +kernel) (by decide +kernel), ?_⟩
  refine ⟨x, l, rl, [st0], [.int 0, .int 2], _, _, sts1, rfl, D2, .cons (rep_int.mpr rfl) (.one (rep_int.mpr rfl)), rfl, he x, fun v H3 b3 D3 r3 => ?_⟩
  refine ne_tC r3 ne2 fun H4 s4 => ⟨false, rfl, L2.iteF ?_⟩
  have D4 := D3.same s4
  have b4 := b3.trans (.same s4)
  -- (12) != 0
  obtain ⟨d5, f5, i5⟩ := ins D4
  refine ⟨_, h0, x, rfl, .inr ⟨d5, f5, i5⟩, ?_⟩
  refine ⟨x, l, rl, sts1, [.int 12], _, _, sts2, rfl, D4, .one (rep_int.mpr rfl), rfl, hc x, fun v H5 b5 D5 r5 => ?_⟩
  refine ne_tC r5 ne0 fun H6 s6 => ⟨false, rfl, L2.iteF ?_⟩
  have D6 := D5.same s6
  have b6 := b4.trans (b5.trans (.same s6))
  -- bool
  obtain ⟨d7, f7, i7⟩ := ins D6
  refine ⟨_, h0, x, d7, f7, rfl, i7, ?_⟩
  refine ⟨x, l, rl, sts2, [], _, _, sts2, rfl, D6, .nil, rfl, hb x, fun v H7 b7 D7 r7 => ⟨false, rep_bool.mp r7, L2.iteF ?_⟩⟩
  have b7' := b6.trans b7
  -- 12 not in
  obtain ⟨d8, f8, i8⟩ := ins D7
  refine ⟨_, h0, x, d8, f8, rfl, i8, ?_⟩
  refine ⟨x, l, rl, sts2, [.int 12], _, _, sts2, rfl, D7, .one (rep_int.mpr rfl), rfl, hi x, fun v H8 b8 D8 r8 => ⟨true, rep_bool.mp r8, false, rfl, L2.iteF ?_⟩⟩
  have b8' := b7'.trans b8
  -- saved == (12,)
  obtain ⟨d9, f9, i9⟩ := ins D8
  refine ⟨_, h0, x, d9, f9, rfl, i9, ?_⟩
  refine ⟨x, l, rl, sts2, [], _, _, sts2, rfl, D8, .nil, rfl, hs x, fun v H9 b9 D9 r9 => ?_⟩
  refine eq_tT r9 eq12 fun H10 s10 => ⟨true, rfl, L2.iteT ?_⟩
  have D10 := D9.same s10
  have b10 := b8'.trans (b9.trans (.same s10))
  -- len == 2
  obtain ⟨d11, f11, i11⟩ := ins D10
  refine ⟨_, h0, x, d11, f11, rfl, i11, ?_⟩
  refine ⟨x, l, rl, sts2, [], _, _, sts2, rfl, D10, .nil, rfl, hl x, fun v H11 b11 D11 r11 => ⟨2, rep_int.mp r11, by omega, by omega, ?_⟩⟩
  refine eq_tC (d := .int 2) (rep_int.mpr rfl) eq2 fun H12 s12 => ⟨true, rfl, L2.iteT ?_⟩
  have D12 := D11.same s12
  have b12 := b10.trans (b11.trans (.same s12))
  -- time == 12
  obtain ⟨d13, f13, i13⟩ := ins D12
  refine ⟨_, h0, x, d13, f13, rfl, i13, ?_⟩
  refine ⟨x, l, rl, sts2, [], _, _, sts2, rfl, D12, .nil, rfl, ht x, fun v H13 b13 D13 r13 => ?_⟩
  refine eq_tC r13 eqt fun H14 s14 => ?_
  exact fin _ (sB (b12.trans (b13.trans (.same s14))))
end DL

set_option autoImplicit false
/-! a document in a slot -/
namespace DL
open PySem PySem.Spec
open PyProof.Rows hiding St
open L2
section
variable {B : Base} {O : Addr → Prop} {σ : L2.St} {H H' : Hp} {ρ : Rho}
/-- the document of a slot gets other states -/
theorem Good.putD (g : Good B O σ H ρ) {i : Nat} {C a l : Addr} {rl : D} {sts sts' : List D} (hi : ρ[i]? = some (.doc C a l rl sts)) (s : ButB l H H') (d : DocAt C H' a l rl sts') : Ext B O σ H ρ H' (ρ.set i (.doc C a l rl sts')) := by
  have hl : i < ρ.length := (List.getElem?_eq_some_iff.mp hi).1
  obtain ⟨ha, oa, hR, dk⟩ := g.slots i _ hi
  obtain ⟨us, hu, ru⟩ := d.ls
  have kp : Keep (Wof σ ρ) H H' := ⟨fun b o e n tt => s.keep b o (fun z => n ⟨i, _, hi, rfl, z.symm⟩) e tt, s.tb, fun b vs e => by
    by_cases hb : b = l
    · exact ⟨us, by rw [hb]; exact hu⟩
    · exact ⟨vs, s.keep b _ hb e⟩⟩
  have mv := g.mv (O' := O) kp fun _ h => .inl h
  have hw : ∀ (j : Nat) u, (ρ.set i (.doc C a l rl sts'))[j]? = some u → isOwn u = true → ∃ u', ρ[j]? = some u' ∧ isOwn u' = true ∧ ∀ b, adr u σ[j]? b → adr u' σ[j]? b := fun j u e q => by
    by_cases hj : i = j
    · subst hj
      rw [List.getElem?_set_self hl] at e
      cases e
      exact ⟨_, hi, rfl, fun b z => z⟩
    · rw [get_set_ne hj] at e; exact ⟨u, e, q, fun _ z => z⟩
  have gd : Good B O σ H' (ρ.set i (.doc C a l rl sts')) := by
    refine ⟨by simp [g.len], ⟨fun b o e n tt => ?_, g.frame.tb.trans s.tb⟩, g.o0, g.r0, g.osub, fun b h => ?_, fun b h => ?_, fun j u e => ?_, fun j k u u' b e1 e2 q1 q2 e3 e4 => ?_⟩
    · refine s.keep b o (fun z => ?_) (g.frame.keep b o e n tt) tt
      subst z
      rcases hR with hR | ⟨_, h0⟩
      · exact n hR
      · rw [h0] at e; cases e
    · exact kp.ne (fun c z => (g.wof z).2) (g.otrk b h)
    · exact kp.ne (fun c z => (g.wof z).2) (g.h0 b h)
    · by_cases hj : i = j
      · subst hj
        rw [List.getElem?_set_self hl] at e
        cases e
        exact ⟨ha, oa, hR, d⟩
      · rw [get_set_ne hj] at e
        have k := g.slots j u e
        have ne : ∀ b, isOwn u = true → adr u σ[j]? b → b ≠ l := fun b q z zz => hj (g.sep i j _ u b hi e rfl q zz.symm z)
        cases u with
        | nil => trivial
        | dat d => exact SlOk.mv mv rfl k
        | own fs =>
          obtain ⟨b, us, e1, h1, h2, h3, h4, r4⟩ := k
          exact ⟨b, us, e1, h1, h2, h3, s.keep b _ (ne b rfl e1) h4, RepL.mv mv _ _ r4⟩
        | bag fs =>
          obtain ⟨b, us, e1, h1, h2, h4, r4⟩ := k
          exact ⟨b, us, e1, h1, h2, s.keep b _ (ne b rfl e1) h4, RepL.mv mv _ _ r4⟩
        | raw v => exact k
        | lam ks => exact SlOk.mv mv rfl k
        | doc C2 x l2 rl2 sts2 => exact SlOk.mvD mv id (fun us e => s.keep l2 _ (ne l2 rfl rfl) e) k
    · obtain ⟨x1, y1, z1, w1⟩ := hw j u e1 q1
      obtain ⟨x2, y2, z2, w2⟩ := hw k u' e2 q2
      exact g.sep j k x1 x2 b y1 y2 z1 z2 (w1 _ e3) (w2 _ e4)
  refine ⟨kp, fun b ⟨j, u, e, q, e3⟩ => ?_, gd⟩
  obtain ⟨x1, y1, z1, w1⟩ := hw j u e q
  exact ⟨j, x1, y1, z1, w1 _ e3⟩
theorem set_self {ρ : Rho} {i : Nat} {s : Sl} (h : ρ[i]? = some s) : ρ.set i s = ρ := by
  apply List.ext_getElem?
  intro j
  by_cases hj : i = j
  · subst hj
    rw [List.getElem?_set_self (List.getElem?_eq_some_iff.mp h).1, h]
  · rw [List.getElem?_set_ne hj]
end
/-! ### methods that may raise before they change the document -/
inductive ResM where
  | ok (r : D) (sts : List D) | er (C : Str)
def RXM (mg : Str → Option Value) (C : Addr) (a l : Addr) (rl : D) (sts : List D) (H : Hp) (Q : VK) (E : XK) : ResM → Prop
  | .ok r sts' => ∀ v H', But l H H' → DocAt C H' a l rl sts' → Rep NO H' r v → Q v H'
  | .er x => ∀ ae H', mg x = some (.ref ae) → But l H H' → DocAt C H' a l rl sts → E (.ref ae) none H'
def spMX (mg : Str → Option Value) (C : Addr) (F : Addr → Addr → D → List D → List D → Option ResM) : Sp := fun vs H Q E => ∃ a l rl sts ds ws r, vs = V.ref a :: ws ∧ DocAt C H a l rl sts ∧ RepL NO H ds ws ∧ flatL ds = true ∧ F a l rl sts ds = some r ∧ RXM mg C a l rl sts H Q E r
/-- a method that only reads -/
def spMR (C : Addr) (F : Addr → D → List D → List D → Option D) : Sp := fun vs H Q _ => ∃ a l rl sts ds ws r, vs = V.ref a :: ws ∧ DocAt C H a l rl sts ∧ RepL NO H ds ws ∧ flatL ds = true ∧ F a rl sts ds = some r ∧ ∀ v H', Same H H' → Rep NO H' r v → Q v H'
/-- statements that may raise, ahead of raw ones -/
def tMX (mg : Str → Option Value) (B : Base) (W : WX) (F : Rho → Option OutX) (t : TS) : TS := fun E σ H => ∃ O ρ r, Good B O σ H ρ ∧ F ρ = some r ∧ (match r with
  | .ok (.nx ρ') => ∀ σ' H' O', Stp O σ H ρ O' σ' H' ρ' → Good B O' σ' H' ρ' → t E σ' H'
  | .ok (.rt _ _) => False
  | .er C => ∀ a σ' H', mg C = some (.ref a) → FrB B H' → W (.ref a) none σ' H')
section
variable {X : Cx} {B : Base} {W : WX} {st : Stmt} {sts : List Stmt} {F G : Rho → Option OutX} {t : TS}
theorem tmx_nil (h : PSs X sts t) : PSs X sts (tMX X.mg B W (okF skipF) t) := h.imp fun E σ H ⟨O, ρ, r, gd, e, q⟩ => by
  cases e
  exact q σ H O Stp.refl gd
theorem tmx_cons (h : DSX X B W st F) (h2 : PSs X sts (tMX X.mg B W G t)) : PSs X (st :: sts) (tMX X.mg B W (seqX F G) t) := (pss_cons h.ps h2).imp fun E σ H ⟨O, ρ, r, gd, e, q⟩ => by
  obtain ⟨r1, e1, e2⟩ := bind_some e
  refine ⟨O, ρ, r1, gd, e1, ?_⟩
  cases r1 with
  | er C =>
    cases e2
    exact q
  | ok o =>
    cases o with
    | rt d ρ1 =>
      cases e2
      exact q.elim
    | nx ρ1 =>
      refine fun σ1 H1 O1 s1 g1 => ⟨O1, ρ1, r, g1, e2, ?_⟩
      cases r with
      | er C => exact q
      | ok o2 =>
        cases o2 with
        | rt d ρ2 => exact q.elim
        | nx ρ2 => exact fun σ2 H2 O2 s2 g2 => q σ2 H2 O2 (s1.trans gd s2) g2
end
end DL

set_option autoImplicit false
/-! a loop whose body may raise; methods that may raise -/
namespace DL
open PySem PySem.Spec
open PyProof.Rows hiding St
open L2
@[simp] def forLX (b : D → Rho → Option Rho) (F : Rho → Option OutX) : List D → Rho → Option OutX
  | [], ρ => some (.ok (.nx ρ))
  | d :: ds, ρ => (b d ρ).bind fun ρ1 => (F ρ1).bind fun r => match r with
    | .ok (.nx ρ2) => forLX b F ds ρ2
    | .ok (.rt z ρ2) => some (.ok (.rt z ρ2))
    | .er C => some (.er C)
@[simp] def forX (fs : Rho → Option (List D × Rho)) (b : D → Rho → Option Rho) (F : Rho → Option OutX) : Rho → Option OutX := fun ρ => (fs ρ).bind fun p => forLX b F p.1 p.2
section
variable {X : Cx} {B : Base} {W : WX} {tg e : Expr} {sts : List Stmt} {is : List Nat} {b : D → Rho → Option Rho} {F : Rho → Option OutX} {fs : Rho → Option (List D × Rho)} {pos p : Pos}
theorem dsx_for (hp : PassesOwn (model X.prog X.w) X.A X.env X.xe) (hc : X.calm = true) (hi : DIE X B tg e fs) (hg : DG X B tg is b) (hb : DSsX X B W sts F) (hs : ∀ x, foldedSetIterable e X.env x = pure x := by intro _; rfl) : DSX X B W (.For tg e sts [] pos) (forX fs b F) :=
  ⟨(ps_for hp hc hi.pi hg.pg hb.ps hs).imp fun E σ H ⟨O, ρ, r, gd, e, q⟩ => by
    obtain ⟨⟨ds, ρ0⟩, e1, e2⟩ := bind_some e
    refine ⟨O, ρ, ds, ρ0, gd, e1, fun J H0 x0 ⟨G, g0, gm, ggo, gst, gy⟩ => ?_⟩
    refine ⟨fun i m σi Hi => m = ds.length - i ∧ i ≤ ds.length ∧ ∃ Oi ρi, Good B Oi σi Hi ρi ∧ Stp O σ H ρ Oi σi Hi ρi ∧ G Oi Hi ∧ forLX b F (ds.drop i) ρi = some r, ⟨ds.length, by simp, Nat.zero_le _, O, ρ0, x0.good, .ext x0, g0, by simpa using e2⟩, ?_⟩
    rintro i m σi Hi ⟨rfl, hi, Oi, ρi, gi, si, Gi, ei⟩
    by_cases hlt : i < ds.length
    · have ed : ds.drop i = ds[i] :: ds.drop (i + 1) := List.drop_eq_getElem_cons hlt
      rw [ed] at ei
      obtain ⟨ρ1, e3, e4⟩ := bind_some ei
      obtain ⟨r1, e5, e6⟩ := bind_some e4
      refine .inr ⟨ggo i Oi Hi hlt Gi, fun σ' H' => i + 1 ≤ ds.length ∧ ∃ O' ρ', Good B O' σ' H' ρ' ∧ Stp O σ H ρ O' σ' H' ρ' ∧ G O' H' ∧ forLX b F (ds.drop (i + 1)) ρ' = some r, fun σ' H' ⟨h1, h2⟩ => ⟨ds.length - (i + 1), by omega, rfl, h1, h2⟩, fun x H1 y => ?_⟩
      obtain ⟨d, ed2, s1, rx⟩ := gy i Oi Hi x H1 hlt gi.otrk Gi y
      have ed3 : ds[i] = d := by
        rw [List.getElem?_eq_getElem hlt] at ed2
        exact Option.some.inj ed2
      subst ed3
      refine ⟨Oi, ρi, _, ρ1, gi.same s1, rx, e3, fun σ2 g2 w2 _ _ => ⟨Oi, ρ1, r1, g2, e5, ?_⟩⟩
      have st2 : Stp O σ H ρ Oi σ2 H1 ρ1 := si.trans gd ⟨.of s1, fun _ h => .inl h, fun _ h => h, fun b h => .inl (w2 b h)⟩
      cases r1 with
      | er C =>
        cases e6
        exact q
      | ok o =>
        cases o with
        | nx ρ2 =>
          exact fun σ' H' O' s3 g3 => ⟨hlt, O', ρ2, g3, st2.trans gd s3, gm _ _ _ _ (s3.mv g2) (gm _ _ _ _ (.same s1) Gi), e6⟩
        | rt z ρ2 =>
          cases e6
          exact fun v σ' H' O' s3 g3 r3 => q v σ' H' O' (st2.trans gd s3) g3 r3
    · have en : i = ds.length := by omega
      subst en
      rw [List.drop_length] at ei
      cases ei
      exact .inl ⟨gst Oi Hi Gi, q σi Hi Oi si gi⟩⟩
end
/-! ### edit, __call__ -/
/-- pre: what stands ahead of keep, over the last state; gs: keep's arguments; g: what is told of the last state then -/
def muFX (n tot : Nat) (pre : Addr → D → D → Rho → Option OutX) (gs : Rho → Option (List D)) (g : Addr → D → Rho → Option D) (FK : Addr → D → List D → List D → Option (D × List D)) : Addr → Addr → D → List D → List D → Option ResM := fun a _ rl sts ds => (sts.getLast?).bind fun ls => if ds.length = n then (pre a rl ls (.raw (.ref a) :: startR tot ds)).bind fun o => match o with
  | .er C => some (.er C)
  | .ok (.rt _ _) => none
  | .ok (.nx ρ1) => (selfD a .none ρ1).bind fun _ => (gs ρ1).bind fun ks => if flatL ks = true then (FK a rl sts ks).bind fun p => (p.2.getLast?).bind fun ls' => (g a ls' (.raw (.ref a) :: List.replicate (ρ1.length - 1) .nil)).bind fun z => some (.ok z p.2) else none
    else none
end DL

set_option autoImplicit false
namespace DL
open PySem PySem.Spec
open PyProof.Rows hiding St
open L2
theorem mutX_core {X : Cx} {C a l : Addr} {rl : D} {sts ds : List D} {r : ResM} {ws : List V} {y : Str} {N : List Str} {Q : VK} {E0' : XK} {n tot : Nat} {pre : Addr → D → D → Rho → Option OutX} {gs : Rho → Option (List D)} {g : Addr → D → Rho → Option D} {FK : Addr → D → List D → List D → Option (D × List D)} {H : Hp}
    (hN : N.length = tot) (hnt : n ≤ tot) (cx : ClsX X.K C) (d : DocAt C H a l rl sts) (rw : RepL NO H ds ws) (e : muFX n tot pre gs g FK a l rl sts ds = some r) (q : RXM X.mg C a l rl sts H Q E0' r) :
    ∃ ls, sts.getLast? = some ls ∧ ∀ E : Ends, E.rt = Q → tMX X.mg ⟨H, NO, NO, nolam, Str.empty⟩ (WD E0') (pre a rl ls) (tSeq (tDrop (tMeth C "keep" (spM C FK) [] E0 (tVar 0) (tPA ⟨H, NO, NO, nolam, Str.empty⟩ .bas gs))) (tRet (tEx X C a (g a)))) E (L2.start (y :: N) (.ref a :: ws)) H := by
  unfold muFX at e
  obtain ⟨ls, e1, e2⟩ := bind_some e
  refine ⟨ls, e1, fun E hE => ?_⟩
  split at e2
  · next hl =>
    obtain ⟨o, e3, e4⟩ := bind_some e2
    refine ⟨NO, _, o, good_startM rw hN (by omega), e3, ?_⟩
    cases o with
    | er x =>
      cases e4
      exact fun ae σ' H' hm f => q ae H' hm (.same (f.out fun _ z => z)) (d.same (f.out fun _ z => z))
    | ok o =>
      cases o with
      | rt z ρ' => cases e4
      | nx ρ1 =>
        obtain ⟨_, e8, e7⟩ := bind_some e4
        obtain ⟨ks, e5, e6⟩ := bind_some e7
        split at e6
        · next hf =>
          obtain ⟨p, e9, e10⟩ := bind_some e6
          obtain ⟨ls', e11, e12⟩ := bind_some e10
          obtain ⟨z, e13, e14⟩ := bind_some e12
          cases e14
          refine fun σ1 H1 O1 s1 g1 => ?_
          have h0 := (slot0 g1 e8).2
          have sm : Same H H1 := g1.frame.out fun _ z => z
          have d1 := d.same sm
          obtain ⟨dx, vr, h1, r1⟩ := d1.ob
          refine ⟨_, h0, a, dx, _, rfl, h1, dfs_no _ _ (by decide +kernel) (by decide +kernel), O1, ρ1, ks, g1, e5, fun vs H2 s2 r3 => ?_⟩
          have r4 : RepL NO H2 ks vs := r3
          refine ⟨a, l, rl, sts, ks, vs ++ [], p.1, p.2, rfl, d1.same s2, by rw [List.append_nil]; exact r4, hf, e9, fun v H3 b3 d3 r5 => ?_⟩
          show tEx X C a (g a) σ1 H3 E.rt
          rw [hE]
          have hlen : σ1.length = (ρ1.length - 1) + 1 := by
            have k := g1.len
            have k2 : 0 < σ1.length := by
              by_cases hz : 0 < σ1.length
              · exact hz
              · rw [List.getElem?_eq_none (by omega)] at h0; cases h0
            omega
          exact ⟨⟨H3, NO, NO, nolam, Str.empty⟩, l, rl, p.2, ls', ⟨cx, d3, fun _ z => z, rfl⟩, e11, NO, _, _, good_self h0 hlen, e13, fun v H4 s4 r6 => q v H4 ((But.same (sm.trans s2)).trans (b3.trans (.same s4))) (d3.same s4) r6⟩
        · cases e6
  · cases e2
section
variable {P : Program} {w : World} {K : PySem.W.Frag} {mg : Str → Option Value} {base : Heap} {C : Addr}
theorem mutX_mk {nm qual y : Str} {st : Stmt} {f : Addr} {fd : FuncData} {N ps : List Str} {k n tot : Nat} {pre : Addr → D → D → Rho → Option OutX} {gs : Rho → Option (List D)} {g : Addr → D → Rho → Option D} {FK : Addr → D → List D → List D → Option (D × List D)}
    (F : L2.Fun K nm qual st f fd) (S : FnScope (y :: N) (y :: ps) (defScope st)) (hN : N.length = tot) (hn : ps.length = n) (cx : ClsX K C)
    (hb : ∀ (B : Base) (a l : Addr) (rl : D) (sts : List D) (ls : D) (cdv : Value) (A : Around) (outer : List PySem.Env) (s : Shared) (H : Hp) (E : XK), Room k (A.deeper (envOfC qual (defScope st) s.heap.objs.size f cdv)) →
      DocCx (cxOf (L2N.CX P w) P w K mg base (y :: N) qual (defScope st) f cdv A outer s H E) B C a l rl sts → sts.getLast? = some ls →
      PSs (cxOf (L2N.CX P w) P w K mg base (y :: N) qual (defScope st) f cdv A outer s H E) (defBody st) (tMX mg B (WD E) (pre a rl ls) (tSeq (tDrop (tMeth C "keep" (spM C FK) [] E0 (tVar 0) (tPA B .bas gs))) (tRet (tEx (cxOf (L2N.CX P w) P w K mg base (y :: N) qual (defScope st) f cdv A outer s H E) C a (g a)))))) :
    FnOk P w K mg base (L2N.CX P w) (k + 1) f fd (y :: ps) (spMX mg C (muFX n tot pre gs g FK)) := by
  have hpl : (y :: ps).length ≤ (y :: N).length := by have := congrArg List.length S.pre; rw [List.length_take] at this; omega
  simp only [List.length_cons] at hpl
  obtain ⟨oc, od, kV, doc, pm, an, cdv, ct, osl, rfl, lk, hcd⟩ := F.ex
  refine fn_of lk hcd S (fun vs H Q E h => ?_) (fun A outer s H vs Q E hr h => ?_)
  · obtain ⟨a, l, rl, sts, ds, ws, r, rfl, d, rw, fl, e, q⟩ := h
    unfold muFX at e
    obtain ⟨ls, e1, e2⟩ := bind_some e
    split at e2
    · next hl => rw [List.length_cons, List.length_cons, ← rw.length, hl, hn]
    · cases e2
  · obtain ⟨a, l, rl, sts, ds, ws, r, rfl, d, rw, fl, e, q⟩ := h
    obtain ⟨ls, e1, h1⟩ := mutX_core (X := cxOf (L2N.CX P w) P w K mg base (y :: N) qual (defScope st) f cdv A outer s H E) (y := y) hN (by omega) cx d rw e q
    exact ⟨_, hb ⟨H, NO, NO, nolam, Str.empty⟩ a l rl sts ls cdv A outer s H E hr ⟨cx, d, fun _ z => z, rfl⟩ e1, h1 _ rfl⟩
@[simp] def muVX (F : Addr → Addr → D → List D → List D → Option ResM) : Addr → Addr → D → List D → List D → Option ResM := fun a l rl sts ds => if ds.length ≤ 100000 then F a l rl sts [.tuple ds] else none
theorem mutVX_mk {nm qual y pv : Str} {st : Stmt} {f : Addr} {fd : FuncData} {N : List Str} {k tot : Nat} {pre : Addr → D → D → Rho → Option OutX} {gs : Rho → Option (List D)} {g : Addr → D → Rho → Option D} {FK : Addr → D → List D → List D → Option (D × List D)}
    (F : L2.Fun K nm qual st f fd) (S : FnScope (y :: N) [y, pv] (defScope st)) (hbd : ∀ us rest : List Value, us.length = [y].length → bindArgs fd ⟨us ++ rest, []⟩ = (newTuple rest >>= fun t => pure ([y].zip us ++ [(pv, t)]))) (hN : N.length = tot) (cx : ClsX K C)
    (hb : ∀ (B : Base) (a l : Addr) (rl : D) (sts : List D) (ls : D) (cdv : Value) (A : Around) (outer : List PySem.Env) (s : Shared) (H : Hp) (E : XK), Room k (A.deeper (envOfC qual (defScope st) s.heap.objs.size f cdv)) →
      DocCx (cxOf (L2N.CX P w) P w K mg base (y :: N) qual (defScope st) f cdv A outer s H E) B C a l rl sts → sts.getLast? = some ls →
      PSs (cxOf (L2N.CX P w) P w K mg base (y :: N) qual (defScope st) f cdv A outer s H E) (defBody st) (tMX mg B (WD E) (pre a rl ls) (tSeq (tDrop (tMeth C "keep" (spM C FK) [] E0 (tVar 0) (tPA B .bas gs))) (tRet (tEx (cxOf (L2N.CX P w) P w K mg base (y :: N) qual (defScope st) f cdv A outer s H E) C a (g a)))))) :
    FnR P w K mg base (L2N.CX P w) (k + 1) f (spMX mg C (muVX (muFX 1 tot pre gs g FK))) := by
  have hpl : [y, pv].length ≤ (y :: N).length := by have := congrArg List.length S.pre; rw [List.length_take] at this; omega
  simp only [List.length_cons, List.length_nil] at hpl
  obtain ⟨oc, od, kV, doc, pm, an, cdv, ct, osl, rfl, lk, hcd⟩ := F.ex
  refine FnR.imp (StX.fn_star (CX := L2N.CX P w) (ps := [y]) (sp := spMX mg C (muFX 1 tot pre gs g FK)) lk hcd S cxUpN hbd fun A outer s H vs Q E hr h => ?_) fun vs H Q E h => ?_
  · obtain ⟨a, l, rl, sts, ds, ws, r, rfl, d, rw, fl, e, q⟩ := h
    obtain ⟨ls, e1, h1⟩ := mutX_core (X := cxOf (L2N.CX P w) P w K mg base (y :: N) qual (defScope st) f cdv A outer s H E) (y := y) hN (by omega) cx d rw e q
    exact ⟨_, hb ⟨H, NO, NO, nolam, Str.empty⟩ a l rl sts ls cdv A outer s H E hr ⟨cx, d, fun _ z => z, rfl⟩ e1, h1 _ rfl⟩
  · obtain ⟨a, l, rl, sts, ds, ws, r, rfl, d, rw, fl, e, q⟩ := h
    unfold muVX at e
    split at e
    · next hl =>
      have hlen := rw.length
      refine ⟨[.ref a], ws, rfl, rfl, line_le (by omega), fun p hp => ?_⟩
      have sm : Same H (upd H p (.tup ws)) := same_upd hp
      refine ⟨a, l, rl, sts, [.tuple ds], [.ref p], r, rfl, d.same sm, .one (rep_tup hp rw), by simpa [flatL, flat] using fl, e, ?_⟩
      cases r with
      | ok z sts' => exact fun v H' b d' r' => q v H' ((But.same sm).trans b) d' r'
      | er x => exact fun ae H' hm b d' => q ae H' hm ((But.same sm).trans b) d'
    · cases e
end
end DL

set_option autoImplicit false
/-! _law_outcome of a call that may change the heap -/
namespace DL
open PySem PySem.Spec
open PyProof.Rows hiding St
open L2
/-- calling f, wherever it is done behind the state (H0, h0), is told by Z -/
structure ActZ (P : Program) (w : World) (K : PySem.W.Frag) (mg : Str → Option Value) (base : Heap) (k : Nat) (fs : List Addr) (H0 : Hp) (h0 : Heap) (f : Addr) (Z : Hp → VK → XK → Prop) : Prop where
  run : ∀ (A : Around) (outer : List Env) (s1 : Shared) (HZ : Hp) (Q : VK) (E : XK), Room k A → Env0 P w K mg base A outer s1 HZ → Un fs [] H0 HZ h0 s1.heap → Same H0 HZ → Z HZ Q E →
    PySem.W.FnAt f s1.heap ∧ codeAny (model P w) A (.call (.ref f) ⟨[], []⟩) (CR (L2N.CX P w) outer P w HZ s1 Q E) s1
section
variable {fs : List Addr} {H0 : Hp} {h0 : Heap} {Y : Cx}
theorem pe_actZ {W : WX} {k i : Nat} {f : Addr} {Z : Hp → VK → XK → Prop} {x : Str} {p1 p2 : Pos} (F : Far fs H0 h0 Y) (act : ActZ Y.prog Y.w Y.K Y.mg Y.base k fs H0 h0 f Z) (tk : L2N.Takes Y W) (hr : Room k Y.A)
    (hN : Y.N[i]? = some x) (hv : Vis Y.env.scope x) (hd : (x == ("__debug__" : Str)) = false := by decide) (hcd : (x == ("__classdict__" : Str)) = false := by decide) :
    PE Y (.Call (.Name x p1) [] [] p2) (fun σ H Q => σ[i]? = some (some (.ref f)) ∧ Same H0 H ∧ Z H Q (fun cls d H' => W cls d σ H')) := by
  refine ⟨fun pins s σ H Q I ⟨hs, sm, hR⟩ => ?_⟩
  refine wpAny_Call_Name_kw (thn ((pe_var (pos := p1) (i := i) hN hv hd hcd).run pins s σ H (fun v H1 => v = .ref f ∧ H1 = H) I ⟨.ref f, hs, rfl, rfl⟩) fun u s1 ⟨v, H1, I1, r1, ev, eH⟩ => ?_)
  subst ev eH
  obtain rfl : u = Value.ref f := r1
  obtain ⟨fa, rc⟩ := act.run Y.A Y.stack s1 H1 Q (fun cls d H' => W cls d σ H') hr I1.env0 (F.at I1) sm hR
  refine PySem.W.callWith_F0 fa (wpAny_call (codeAny_mono rc fun r s' hq => ?_))
  cases r with
  | error e => exact L2N.passAt tk σ pins H1 s1 e s' I1 hq
  | ok fl =>
    cases fl with
    | ret u => exact I1.after hq
    | next => exact False.elim hq
    | brk => exact False.elim hq
    | cont => exact False.elim hq
end
/-- the def _law_outcome, of such a call -/
structure OutZ (P : Program) (w : World) (K : PySem.W.Frag) (mg : Str → Option Value) (base : Heap) (k : Nat) (x xe : Str) (CS : Addr) : Prop where
  ex : ∃ g fd a, mg x = some (.ref g) ∧ PySem.W.keepIn K (.ref g) = true ∧ Binds K fd [a] [] ∧ ∀ (A : Around) (outer : List Env) (s1 : Shared) (H1 : Hp) (args : Args) (fs : List Addr) (H0 : Hp) (h0 : Heap) (f : Addr) (Z : Hp → VK → XK → Prop) (Q : VK), Room (k + 1) A → Env0 P w K mg base A outer s1 H1 →
    Un fs [] H0 H1 h0 s1.heap → (∀ b o, h0.get? b = some o → b ∈ frs outer → b ∈ fs) → Same H0 H1 → ActZ P w K mg base k fs H0 h0 f Z → BindsTo s1 fd args ([a].zip [.ref f]) →
    (∀ (H2 : Hp) (Q' : VK) (E' : XK), Same H1 H2 → (∀ v H3, (∀ p, H3 p = none → Q (.ref p) (upd H3 p (.tup [.str "value", v]))) → Q' v H3) →
      (∀ C aC H3, ErrOk P w K mg base k xe CS C → mg C = some (.ref aC) → (∀ H4 p, Same H3 H4 → H4 p = none → Q (.ref p) (upd H4 p (.tup [.str C]))) → E' (.ref aC) none H3) → Z H2 Q' E') →
    codeAny (model P w) A (.call (.ref g) args) (CR CX0 outer P w H1 s1 Q E0) s1
def tActZ (H0 : Hp) (f : Addr) (Z : Hp → VK → XK → Prop) (i : Nat) (W : WX) : TE := fun σ H Q => σ[i]? = some (some (.ref f)) ∧ Same H0 H ∧ Z H Q (fun cls d H' => W cls d σ H')
theorem out_mkZ {P : Program} {w : World} {K : PySem.W.Frag} {mg : Str → Option Value} {base : Heap} {x xe a y e : Str} {st : Stmt} {g : Addr} {fd : FuncData} {k : Nat} {CS : Addr} (F : L2.Fun K x x st g fd) (S : FnScope [a, y, e] [a] (defScope st)) (bi : Binds K fd [a] []) (hm : mg x = some (.ref g))
    (hla : (defScope st).names.lookup a = some .local) (hle : (defScope st).names.lookup e = some .local) (hlx : (defScope st).names.lookup xe = some .globalImplicit) (da : (a == ("__debug__" : Str)) = false := by decide) (ca : (a == ("__classdict__" : Str)) = false := by decide) (de : (e == ("__debug__" : Str)) = false := by decide) (ce : (e == ("__classdict__" : Str)) = false := by decide) (dx : (xe == ("__debug__" : Str)) = false := by decide)
    (hb : ∀ (cdv : Value) (A : Around) (outer : List Env) (s : Shared) (H : Hp) (TA : WX → TE) (TR : Addr → Value → Option Addr → TE),
      (∀ (W : WX) (pn : List (Addr × Obj)) (xn : Value → Shared → Prop) (p1 p2 : Pos), L2N.Takes ((cxOf CX0 P w K mg base [a, y, e] x (defScope st) g cdv A outer s H E0).nox.tr pn xn) W → PE ((cxOf CX0 P w K mg base [a, y, e] x (defScope st) g cdv A outer s H E0).nox.tr pn xn) (.Call (.Name a p1) [] [] p2) (TA W)) →
      (∀ (ao : Addr) (oe : Obj) (cls : Value) (d : Option Addr) (pn : List (Addr × Obj)) (p p2 pos : Pos), L2N.Zn cls d oe → (∃ vs, oe.data = .fields vs) → PE ((cxOf CX0 P w K mg base [a, y, e] x (defScope st) g cdv A outer s H E0).nox.suite ao ((ao, oe) :: pn)) (.Call (.Name xe p) [.Name e p2] [] pos) (TR ao cls d)) →
      PSs (cxOf CX0 P w K mg base [a, y, e] x (defScope st) g cdv A outer s H E0).nox (defBody st) (outT K CS TA TR)) : OutZ P w K mg base k x xe CS := by
  refine ⟨g, fd, a, hm, F.kp, bi, fun A outer s1 H1 args fs H0 h0 f Z Q hr e0 u0 stk sm act hbt q => ?_⟩
  obtain ⟨oc, od, kV, doc, pm, an, cdv, ct, osl, rfl, lk, hcd⟩ := F.ex
  refine LamX.run_ofS (CX := CX0) (E := E0) (us := [.ref f]) (vs := [.ref f]) (ps := [a]) (N := [a, y, e]) lk hcd S hr e0 hbt (.cons rfl .nil) rfl fun hr' => ?_
  have far : Far fs H0 h0 (cxOf CX0 P w K mg base [a, y, e] x (defScope st) g cdv A outer s1 H1 E0).nox := (far_un u0 stk).nox
  refine ⟨_, (hb cdv A outer s1 H1 (tActZ H0 f Z 0) (tErrP P w K mg base k xe 2) (fun W pn xn p1 p2 tk => pe_actZ (i := 0) far.tr act tk hr' rfl (.inl hla) da ca) fun ao oe cls d pn p p2 pos hz hf => pe_err (i := 2) hz hf hr' (Nat.le_refl k) hlx rfl (.inl hle) dx de ce).nox, ?_⟩
  have l1 : 1 ≤ sizeLine := by decide
  have l2 : 2 ≤ sizeLine := by decide
  refine ⟨l1, fun p hp => ?_⟩
  have s0 : Same H1 (upd H1 p (.tup [.str "nothing"])) := same_upd hp
  refine ⟨rfl, sm.trans s0, ?_⟩
  refine q _ _ _ s0 (fun v H3 hv => ?_) (fun C aC H3 hE hC he => ?_)
  · exact ⟨l2, fun p3 hp3 => ⟨_, rfl, hv p3 hp3⟩⟩
  · obtain ⟨hx, ef⟩ := hE.ok aC hC
    refine ⟨true, hx, fun _ ae na => ?_, fun z => nomatch z⟩
    exact ⟨aC, C, rfl, rfl, ef, rfl, fun H4 s4 => ⟨l1, fun p4 hp4 => ⟨_, rfl, he H4 p4 s4 hp4⟩⟩⟩
end DL

set_option autoImplicit false
/-! calls that may raise, or change what the slots own; lambdas of such calls -/
namespace DL
open PySem PySem.Spec
open PyProof.Rows hiding St
open L2
inductive ResD where
  | ok (d : D) (ρ : Rho) | er (C : Str)
def RXD (mg : Str → Option Value) (B : Base) (O : Addr → Prop) (σ : L2.St) (ρ : Rho) (H : Hp) (Q : VK) (E : XK) : ResD → Prop
  | .ok d ρ' => ∀ v H', Ext B O σ H ρ H' ρ' → Rep O H' d v → Q v H'
  | .er C => ∀ a H', mg C = some (.ref a) → Ext B O σ H ρ H' ρ → E (.ref a) none H'
def tXM (mg : Str → Option Value) (B : Base) (W : WX) (g : Rho → Option ResD) : TE := fun σ H Q => ∃ O ρ r, Good B O σ H ρ ∧ g ρ = some r ∧ RXD mg B O σ ρ H Q (fun cls d H' => W cls d σ H') r
structure DXM (X : Cx) (B : Base) (W : WX) (e : Expr) (g : Rho → Option ResD) : Prop where
  pe : PE X e (tXM X.mg B W g)
/-- the lambda n means G -/
structure LamKM (X : Cx) (B : Base) (ls : List LamD) (j n : Nat) (G : Rho → Option ResD) : Prop where
  ex : ∃ pa bo sc, ls[n]? = some (pa, bo, sc) ∧ LamX.LamS X.env.scope sc ∧ (∀ (q : Str) (cl : List (Str × Addr)) (pm cv ctv : Value), bindArgs (PySem.W.kla_fn "<lambda>" q pa bo sc cl pm cv ctv) ⟨[], []⟩ = pure []) ∧
    ∀ (A : Around) (outer : List Env) (s : Shared) (H : Hp) (E : XK) (f c' : Addr), Room j (A.deeper (LamX.lamEnv X sc s.heap.objs.size f c')) → DXM (lamCxN X A outer s H E sc f c') B (WD E) bo G
section
variable {X : Cx} {B : Base} {W : WX} {ls : List LamD} {c P : Addr} {p pos : Pos}
theorem act_ofM {pins : List (Addr × Obj)} {σ : L2.St} {H : Hp} {s : Shared} {O : Addr → Prop} {ρ : Rho} {j k n : Nat} {G : Rho → Option ResD} {r : ResD} {f c' : Addr} (M : Mkr X B ls c P) (hL : LamKM X B ls j n G) (hj : j + 1 ≤ k) (I : L2.Inv X pins σ H s) (gd : Good B O σ H ρ)
    (h1 : H f = some (B.lam n f c')) (h2 : H c' = some (LamX.CodeO c' B.lq)) (hG : G ρ = some r) : ActZ X.prog X.w X.K X.mg X.base k (frs X.stack) H s.heap f (fun HZ Q E => RXD X.mg B O σ ρ HZ Q E r) := by
  obtain ⟨pa, bo, sc, hn, L, hbind, hbody⟩ := hL.ex
  refine ⟨fun A outer s1 HZ Q E hr e0 un sm hR => ?_⟩
  refine lam_act (k := j) (tb := fun E => tXM X.mg B (WD E) G) I L ?_ (by rw [← M.q]; exact h2) (hbind _) (fun A outer s1 H1 E hr => (hbody A outer s1 H1 E f c' hr).pe) (hr.mono hj) e0 un sm ⟨O, ρ, r, gd.same sm, hG, hR⟩
  rw [M.lam] at h1
  unfold lamF at h1
  rw [hn] at h1
  exact h1
@[simp] def outM (g : Rho → Option ResD) (ws : List Str) : Rho → Option (D × Rho) := fun ρ => (g ρ).bind fun r => match r with
  | .ok d ρ' => some (.tuple [.str "value", d], ρ')
  | .er C => if C ∈ ws then some (.tuple [.str C], ρ) else none
theorem de_outcome {x xe : Str} {CS : Addr} {k j jj n : Nat} {G : Rho → Option ResD} {ws : List Str} {pa : Arguments} {bo : Expr} {sc : Scope} {lpos : Pos} (A : OutZ X.prog X.w X.K X.mg X.base k x xe CS) (M : Mkr X B ls c P) (hr : Room jj X.A) (hk : k + 1 ≤ jj) (hj : j + 1 ≤ k) (hn : ls[n]? = some (pa, bo, sc)) (hq : qn lpos.line = X.env.qual ++ "<lambda>") (L : LamX.LamS X.env.scope sc) (hL : LamKM X B ls j n G)
    (hE : ∀ C ∈ ws, ErrOk X.prog X.w X.K X.mg X.base k xe CS C) (hg : Gl X x := by rfl) (hdb : (x == ("__debug__" : Str)) = false := by decide) (hdef : defaultsOf pa X.env = ([], []) := by rfl) (hst : starEach [.Lambda pa bo sc lpos] X.env = (false, eval (.Lambda pa bo sc lpos) X.env) :: starEach [] X.env := by rfl)
    (hpl : (backTo pos (starEach [] X.env)).any (·.1) = false := by rfl) : DE X B (.Call (.Name x p) [.Lambda pa bo sc lpos] [] pos) (outM G ws) := by
  refine ⟨⟨fun pins s σ H Q I ⟨O, ρ, d, ρ', gd, e1, q⟩ => ?_⟩⟩
  obtain ⟨r, e2, e3⟩ := bind_some e1
  obtain ⟨gf, fd, a, hm, kp, bi, run⟩ := A.ex
  refine wpAny_Call_Name_kw (ld_glob I hg hm ?_ hdb)
  have hp := pa_cons (pe_lam M hn hq L hdef) pa_nil hst
  refine PySem.W.callWith_K (h₀ := X.base) I.ok.mod.kin kp (thn (hp.run pos pins s σ H (fun vs H1 => ∃ f, vs = [V.ref f] ∧ Same H H1 ∧ LamAll B H1 [f] [n]) I ⟨⟨O, ρ, gd⟩, fun f H1 s1 la => ⟨f, rfl, s1, la⟩⟩) fun us s1 ⟨vs, H1, I1, rv, f, ev, sm, la⟩ => ⟨I1.kIn, ?_⟩) hst hpl
  subst ev
  have g1 := gd.same sm
  cases rv with
  | cons rf rn =>
    cases rn
    cases rf
    have bb := bi s1 [.ref f] I1.kIn rfl
    rw [List.append_nil] at bb
    cases la with
    | cons lr _ =>
      obtain ⟨c', h1, _, h3⟩ := lr
      refine wpAny_call (codeAny_mono (run X.A X.stack s1 H1 ⟨[.ref f], []⟩ (frs X.stack) H1 s1.heap f _ Q (hr.mono hk) I1.env0 Un.refl (fun _ _ _ h => h) (Same.refl H1) (act_ofM M hL hj I1 g1 h1 h3 e2) bb fun H2 Q' E' s2 hv he => ?_) fun r s' hq => ?_)
      · cases r with
        | ok d' ρ2 =>
          cases e3
          refine fun v H3 x3 rv => hv v H3 fun p hp => q (.ref p) _ (((Ext.of gd (sm.trans s2)).trans x3).samr (same_upd hp)) (rep_tup hp (.cons (by simp only [Rep]) (.cons rv .nil)))
        | er C =>
          have e4 : (if C ∈ ws then some (PyData.tuple [.str C], ρ) else none) = some (d, ρ') := e3
          by_cases hC : C ∈ ws
          · rw [if_pos hC] at e4
            cases e4
            exact fun aC H3 hm3 x3 => he C aC H3 (hE C hC) hm3 fun H4 p s4 hp => q (.ref p) _ (((Ext.of gd (sm.trans s2)).trans x3).samr (s4.trans (same_upd hp))) (rep_tup hp (.cons (by simp only [Rep]) .nil))
          · rw [if_neg hC] at e4
            cases e4
      · cases r with
        | error e => exact False.elim hq
        | ok fl =>
          cases fl with
          | ret u => exact I1.after hq
          | next => exact False.elim hq
          | brk => exact False.elim hq
          | cont => exact False.elim hq
end
end DL

set_option autoImplicit false
/-! a document of a slot: its methods called -/
namespace DL
open PySem PySem.Spec
open PyProof.Rows hiding St
open L2
structure MFnX (P : Program) (w : World) (K : PySem.W.Frag) (mg : Str → Option Value) (base : Heap) (k : Nat) (C : Addr) (m : Str) (F : Addr → Addr → D → List D → List D → Option ResM) : Prop where
  ex : ∃ f, FnR P w K mg base (L2N.CX P w) k f (spMX mg C F) ∧ Meth K C m f ∧ PySem.W.fnIn K f = true
/-- the slot i's document of the class C gets its method called -/
def docG (i : Nat) (C : Addr) (gs : Rho → Option (List D)) (F : Addr → Addr → D → List D → List D → Option ResM) : Rho → Option ResD := fun ρ => match ρ[i]? with
  | some (.doc C' a l rl sts) => if C' = C then (gs ρ).bind fun ks => if flatL ks = true then (F a l rl sts ks).bind fun r => (match r with
    | .ok d sts' => if flat d = true then some (.ok d (ρ.set i (.doc C' a l rl sts'))) else none
    | .er x => some (.er x)) else none else none
  | _ => none
section
variable {X : Cx} {B : Base} {W : WX} {i : Nat} {C : Addr} {gs : Rho → Option (List D)} {F : Addr → Addr → D → List D → List D → Option ResM}
/-- what is asked of the state, so that the slot's document may be called -/
theorem docG_read {O : Addr → Prop} {σ : L2.St} {H : Hp} {ρ : Rho} {Q : VK} {E : XK} {r : ResD} (gd : Good B O σ H ρ) (e : docG i C gs F ρ = some r) (q : RXD X.mg B O σ ρ H Q E r) :
    ∃ (a l : Addr) (ks : List D), σ[i]? = some (some (.ref a)) ∧ (∃ dx vr, H a = some (.ins C dx (dfs vr l))) ∧ gs ρ = some ks ∧ flatL ks = true ∧ ∀ vs H2, Same H H2 → RepL NO H2 ks vs → spMX X.mg C F (.ref a :: vs) H2 Q E := by
  unfold docG at e
  split at e
  · next C' a l rl sts hi =>
    split at e
    · next hC =>
      subst hC
      obtain ⟨ks, e5, e6⟩ := bind_some e
      split at e6
      · next hf =>
        obtain ⟨rm, e7, e8⟩ := bind_some e6
        obtain ⟨ha, oa, hR, dk⟩ := gd.slots i _ hi
        obtain ⟨dx, vr, h1, r1⟩ := id dk.ob
        refine ⟨a, l, ks, ha, ⟨dx, vr, h1⟩, e5, hf, fun vs H2 sm r2 => ⟨a, l, rl, sts, ks, vs, rm, rfl, dk.same sm, r2, hf, e7, ?_⟩⟩
        cases rm with
        | ok d sts' =>
          have e9 : (if flat d = true then some (ResD.ok d (ρ.set i (.doc C' a l rl sts'))) else none) = some r := e8
          split at e9
          · next hd =>
            cases e9
            exact fun v H3 b3 d3 r3 => q v H3 ((Ext.of gd sm).trans ((gd.same sm).putD hi b3 d3)) (rep_flat d v hd r3)
          · cases e9
        | er x =>
          cases e8
          refine fun ae H3 hm3 b3 d3 => q ae H3 hm3 ?_
          have x3 := (Ext.of gd sm).trans ((gd.same sm).putD hi b3 d3)
          rwa [set_self hi] at x3
      · cases e6
    · cases e
  · cases e
theorem ra_run {σ : L2.St} {H : Hp} {s : Shared} {pins : List (Addr × Obj)} {a f : Addr} {k j : Nat} {vs : List V} {us : List Value} {Q : VK} (R : FnR X.prog X.w X.K X.mg X.base (L2N.CX X.prog X.w) k f (spMX X.mg C F)) (tk : L2N.Takes X W) (hr : Room j X.A) (hk : k ≤ j) (I : L2.Inv X pins σ H s) (r : Vals vs us) (q : spMX X.mg C F (.ref a :: vs) H Q (WE W σ)) :
    codeAny (model X.prog X.w) X.A (.call (.ref f) ⟨.ref a :: us, []⟩) (fun r s' => match r with
      | .ok (.ret u) => EP X pins σ Q u s'
      | .ok _ => False
      | .error e => X.xe e s') s := run_fnRS (us := .ref a :: us) (vs := .ref a :: vs) R (hr.mono hk) (L2N.passAt tk σ) I (.cons rfl r) q
variable {k j : Nat} {m : Str} {o e : Expr} {es : List Expr} {pos apos : Pos} {pl : Sem Bool}
theorem dxm_meth (G : MFnX X.prog X.w X.K X.mg X.base k C m F) (cx : Cls X.K C) (tk : L2N.Takes X W) (hr : Room j X.A) (hk : k ≤ j) (ho : PE X o (tVar i)) (ha : DPA X B .bas (e :: es) gs) (h1 : ¬ m = "rule" := by decide +kernel) (h2 : ¬ m = "states" := by decide +kernel)
    (hst : starEach (e :: es) X.env = (false, eval e X.env) :: starEach es X.env := by rfl) (hpl : (backTo pos (starEach es X.env)).any (·.1) = false := by rfl)
    (ht : eval (.Call (.Attribute o m apos) (e :: es) [] pos) X.env = (do
      let ov ← eval o X.env
      standAt apos.atName
      let (f, first) ← holding [ov] (getMethod ov m pl)
      callWith pos f first (backTo pos (starEach (e :: es) X.env)) (backToKw pos (keywordEach [] X.env))) := by rfl) : DXM X B W (.Call (.Attribute o m apos) (e :: es) [] pos) (docG i C gs F) := by
  obtain ⟨f, R, hm, _⟩ := G.ex
  refine ⟨⟨fun pins s σ H Q I ⟨O, ρ, r, gd, e1, q⟩ => ?_⟩⟩
  obtain ⟨a, l, ks, ha', ⟨dx, vr, hH⟩, e5, hf, q2⟩ := docG_read (X := X) gd e1 q
  refine PySem.W.methodCall_KW (pl := pl) (thn (ho.run pins s σ H (fun v H1 => v = .ref a ∧ H1 = H) I ⟨.ref a, ha', rfl, rfl⟩) fun u s1 ⟨x, H1, I1, rx, ex, eH⟩ => ?_) ht
  subst ex eH
  obtain rfl : u = Value.ref a := rx
  refine getmeth_ok I1 hH cx hm (dfs_no _ _ h1 h2) ?_
  refine PySem.W.callWith_K (first := [.ref a]) (h₀ := X.base) I.ok.mod.kin hm.kp (thn (ha.pa.run pos pins s1 σ H1 (fun vs H2 => Same H1 H2 ∧ RepL NO H2 ks vs) I1 ⟨O, ρ, ks, gd, e5, fun vs H2 s2 r2 => ⟨s2, repL_flat _ _ hf r2⟩⟩) fun us s2 ⟨vs, H2, I2, r, sm, r2⟩ => ⟨I2.kIn, ?_⟩) hst hpl
  exact wpAny_call (ra_run R tk hr hk I2 r (q2 vs H2 sm r2))
theorem dxm_meth0 (G : MFnX X.prog X.w X.K X.mg X.base k C m F) (cx : Cls X.K C) (tk : L2N.Takes X W) (hr : Room j X.A) (hk : k ≤ j) (ho : PE X o (tVar i)) (h1 : ¬ m = "rule" := by decide +kernel) (h2 : ¬ m = "states" := by decide +kernel)
    (ht : eval (.Call (.Attribute o m apos) [] [] pos) X.env = (do
      let ov ← eval o X.env
      standAt apos.atName
      let (f, first) ← holding [ov] (getMethod ov m pl)
      callWith pos f first (backTo pos (starEach [] X.env)) (backToKw pos (keywordEach [] X.env))) := by rfl) : DXM X B W (.Call (.Attribute o m apos) [] [] pos) (docG i C nilA F) := by
  obtain ⟨f, R, hm, _⟩ := G.ex
  refine ⟨⟨fun pins s σ H Q I ⟨O, ρ, r, gd, e1, q⟩ => ?_⟩⟩
  obtain ⟨a, l, ks, ha', ⟨dx, vr, hH⟩, e5, hf, q2⟩ := docG_read (X := X) gd e1 q
  obtain rfl : ks = [] := by
    unfold nilA at e5
    cases e5
    rfl
  refine PySem.W.methodCall_KW (pl := pl) (thn (ho.run pins s σ H (fun v H1 => v = .ref a ∧ H1 = H) I ⟨.ref a, ha', rfl, rfl⟩) fun u s1 ⟨x, H1, I1, rx, ex, eH⟩ => ?_) ht
  subst ex eH
  obtain rfl : u = Value.ref a := rx
  refine getmeth_ok I1 hH cx hm (dfs_no _ _ h1 h2) ?_
  refine PySem.W.callWith_K0 (first := [.ref a]) I1.kIn hm.kp ?_
  exact wpAny_call (ra_run R tk hr hk I1 .nil (q2 [] H1 (Same.refl H1) .nil))
theorem dxm_call {fe : Expr} (G : MFnX X.prog X.w X.K X.mg X.base k C "__call__" F) (tk : L2N.Takes X W) (hr : Room j X.A) (hk : k ≤ j) (ho : PE X fe (tVar i)) (ha : DPA X B .bas (e :: es) gs)
    (ht : eval (.Call fe (e :: es) [] pos) X.env = (do callWith pos (← eval fe X.env) [] (backTo pos (starEach (e :: es) X.env)) (backToKw pos (keywordEach [] X.env))) := by rfl)
    (he : starEach (e :: es) X.env = (false, eval e X.env) :: starEach es X.env := by rfl) (hpl : (backTo pos (starEach es X.env)).any (·.1) = false := by rfl) : DXM X B W (.Call fe (e :: es) [] pos) (docG i C gs F) := by
  obtain ⟨f, R, hm, fi⟩ := G.ex
  refine ⟨⟨fun pins s σ H Q I ⟨O, ρ, r, gd, e1, q⟩ => ?_⟩⟩
  obtain ⟨a, l, ks, ha', ⟨dx, vr, hH⟩, e5, hf, q2⟩ := docG_read (X := X) gd e1 q
  refine Call_ (thn (ho.run pins s σ H (fun v H1 => v = .ref a ∧ H1 = H) I ⟨.ref a, ha', rfl, rfl⟩) fun u s1 ⟨x, H1, I1, rx, ex, eH⟩ => ?_) ht
  subst ex eH
  obtain rfl : u = Value.ref a := rx
  refine StX.callO_with (thn (ha.pa.run pos pins s1 σ H1 (fun vs H2 => Same H1 H2 ∧ RepL NO H2 ks vs) I1 ⟨O, ρ, ks, gd, e5, fun vs H2 s2 r2 => ⟨s2, repL_flat _ _ hf r2⟩⟩) fun us s2 ⟨vs, H2, I2, r, sm, r2⟩ => ?_) he hpl
  obtain ⟨ox, od, J, hd⟩ := StX.insC_at I2 (.inr ⟨dx, _, sm _ _ hH⟩)
  exact ⟨⟨C, ox, od, J, hd⟩, wpAny_call (PySem.W.kco_code I2.kIn J hd hm.at_ hm.fn fi (ra_run R tk hr hk I2 r (q2 vs H2 sm r2)))⟩
end
end DL

set_option autoImplicit false
/-! a document of a slot: what is only read of it -/
namespace DL
open PySem PySem.Spec
open PyProof.Rows hiding St
open L2
@[simp] def rdR (n tot : Nat) (b : Addr → D → D → Rho → Option Out) : Addr → D → List D → List D → Option D := fun a rl sts ds => (sts.getLast?).bind fun ls => if ds.length = n then (b a rl ls (.raw (.ref a) :: startR tot ds)).bind fun o => (match o with
  | .nx _ => some .none
  | .rt d _ => some d) else none
section
variable {P : Program} {w : World} {K : PySem.W.Frag} {mg : Str → Option Value} {base : Heap} {C : Addr}
theorem rdmR_mk {nm qual y : Str} {st : Stmt} {f : Addr} {fd : FuncData} {N ps : List Str} {k n tot : Nat} {b : Addr → D → D → Rho → Option Out} (F : L2.Fun K nm qual st f fd) (S : FnScope (y :: N) (y :: ps) (defScope st)) (hN : N.length = tot) (hn : ps.length = n) (cx : ClsX K C)
    (hb : ∀ (B : Base) (a l : Addr) (rl : D) (sts : List D) (ls : D) (cdv : Value) (A : Around) (outer : List PySem.Env) (s : Shared) (H : Hp) (E : XK), Room k (A.deeper (envOfC qual (defScope st) s.heap.objs.size f cdv)) →
      DocCx (cxOf CX0 P w K mg base (y :: N) qual (defScope st) f cdv A outer s H E).nox B C a l rl sts → sts.getLast? = some ls → DSs (cxOf CX0 P w K mg base (y :: N) qual (defScope st) f cdv A outer s H E).nox B (defBody st) (b a rl ls)) :
    FnOk P w K mg base CX0 (k + 1) f fd (y :: ps) (spMR C (rdR n tot b)) := by
  have hpl : (y :: ps).length ≤ (y :: N).length := by have := congrArg List.length S.pre; rw [List.length_take] at this; omega
  refine F.ok S (fun vs H Q E h => ?_) (fun cdv A outer s H vs Q E hr h => ?_)
  · obtain ⟨a, l, rl, sts, ds, ws, r, rfl, d, rw, fl, e, q⟩ := h
    obtain ⟨ls, e1, e2⟩ := bind_some e
    split at e2
    · next hl => rw [List.length_cons, List.length_cons, ← rw.length, hl, hn]
    · cases e2
  · obtain ⟨a, l, rl, sts, ds, ws, r, rfl, d, rw, fl, e, q⟩ := h
    obtain ⟨ls, e1, e2⟩ := bind_some e
    split at e2
    · next hl =>
      obtain ⟨o, e3, e4⟩ := bind_some e2
      refine ⟨_, (hb ⟨H, NO, NO, nolam, Str.empty⟩ a l rl sts ls cdv A outer s H E hr ⟨cx, d, fun _ z => z, rfl⟩ e1).ps, NO, _, o, good_startM rw hN (by simp only [List.length_cons] at hpl; omega), e3, ?_⟩
      cases o with
      | nx ρ' =>
        cases e4
        exact fun σ' H' O' s3 g3 => q _ H' (g3.frame.out fun _ z => z) (rep_none.mpr rfl)
      | rt z ρ' =>
        cases e4
        exact fun v σ' H' O' s3 g3 r3 => q v H' (g3.frame.out fun _ z => z) r3
    · cases e2
end
structure PFnR (P : Program) (w : World) (K : PySem.W.Frag) (mg : Str → Option Value) (base : Heap) (k : Nat) (C : Addr) (m : Str) (F : Addr → D → List D → List D → Option D) : Prop where
  ex : ∃ p f fd ps, FnOk P w K mg base CX0 k f fd ps (spMR C F) ∧ Binds K fd ps [] ∧ PropOf K C m p f
structure MFnR (P : Program) (w : World) (K : PySem.W.Frag) (mg : Str → Option Value) (base : Heap) (k : Nat) (C : Addr) (m : Str) (F : Addr → D → List D → List D → Option D) : Prop where
  ex : ∃ f, FnR P w K mg base CX0 k f (spMR C F) ∧ OwnFn K C m f
def docR (i : Nat) (C : Addr) (gs : Rho → Option (List D)) (F : Addr → D → List D → List D → Option D) : Rho → Option D := fun ρ => match ρ[i]? with
  | some (.doc C' a l rl sts) => if C' = C then (gs ρ).bind fun ks => if flatL ks = true then (F a rl sts ks).bind fun d => if flat d = true then some d else none else none else none
  | _ => none
section
variable {X : Cx} {B : Base} {md : Md} {i : Nat} {C : Addr} {gs : Rho → Option (List D)} {F : Addr → D → List D → List D → Option D} {k j : Nat} {m : Str} {e : Expr} {pos : Pos}
theorem docR_read {O O' : Addr → Prop} {σ : L2.St} {H : Hp} {ρ : Rho} {Q : VK} {E : XK} {d : D} (gd : Good B O σ H ρ) (e : docR i C gs F ρ = some d) (q : ∀ v H', Same H H' → Rep O' H' d v → Q v H') :
    ∃ (a l : Addr) (ks : List D), σ[i]? = some (some (.ref a)) ∧ (∃ dx vr, H a = some (.ins C dx (dfs vr l))) ∧ gs ρ = some ks ∧ flatL ks = true ∧ ∀ vs H2, Same H H2 → RepL NO H2 ks vs → spMR C F (.ref a :: vs) H2 Q E := by
  unfold docR at e
  split at e
  · next C' a l rl sts hi =>
    split at e
    · next hC =>
      subst hC
      obtain ⟨ks, e5, e6⟩ := bind_some e
      split at e6
      · next hf =>
        obtain ⟨rm, e7, e8⟩ := bind_some e6
        split at e8
        · next hd =>
          cases e8
          obtain ⟨ha, oa, hR, dk⟩ := gd.slots i _ hi
          obtain ⟨dx, vr, h1, r1⟩ := id dk.ob
          exact ⟨a, l, ks, ha, ⟨dx, vr, h1⟩, e5, hf, fun vs H2 sm r2 => ⟨a, l, rl, sts, ks, vs, d, rfl, dk.same sm, r2, hf, e7, fun v H3 s3 r3 => q v H3 (sm.trans s3) (rep_flat _ v hd r3)⟩⟩
        · cases e8
      · cases e6
    · cases e
  · cases e
theorem dp_prop (G : PFnR X.prog X.w X.K X.mg X.base k C m F) (cx : Cls X.K C) (hr : Room (j + 1) X.A) (hk : k ≤ j) (ho : PE X e (tVar i)) (hab : attributeBase e m X.env (eval e X.env) = eval e X.env := by rfl) : DP X B md (.Attribute e m pos) (docR i C nilA F) := by
  obtain ⟨p, f, fd, ps, R, b, hp⟩ := G.ex
  refine ⟨(pe_prop ho cx hp R (hr.mono (by omega)) b .nil pass0 hab).imp fun σ H Q ⟨O, ρ, d, gd, e1, q⟩ => ?_⟩
  obtain ⟨a, l, ks, ha, ⟨dx, vr, h1⟩, e5, hf, q2⟩ := docR_read (E := E0) gd e1 q
  obtain rfl : ks = [] := by
    unfold nilA at e5
    cases e5
    rfl
  exact ⟨_, ha, a, dx, _, rfl, h1, q2 [] H (Same.refl H) .nil⟩
/-- len(doc) -/
theorem dp_lenD {p : Pos} (G : MFnR X.prog X.w X.K X.mg X.base k C "__len__" F) (hr : Room (j + 1) X.A) (hk : k ≤ j) (hm : X.mg "len" = none) (ho : PE X e (tVar i)) (hg : Gl X "len" := by rfl)
    (he : starEach (e :: []) X.env = (false, eval e X.env) :: starEach [] X.env := by rfl) (hpl : (backTo pos (starEach [] X.env)).any (·.1) = false := by rfl) (hF : ∀ a rl sts d, F a rl sts [] = some d → ∃ n : Int, d = .int n ∧ 0 ≤ n ∧ n < 2 ^ 63) : DP X B md (.Call (.Name "len" p) [e] [] pos) (docR i C nilA F) := by
  obtain ⟨f, R, O⟩ := G.ex
  refine ⟨(pe_callB (call_lenOwn O R (hr.mono (by omega))) hg hm PySem.boot_len (pa_cons ho pa_nil he) (by decide) (by decide) he hpl).imp fun σ H Q ⟨O, ρ, d, gd, e1, q⟩ => ?_⟩
  have e0 := e1
  obtain ⟨a, l, ks, ha, ⟨dx, vr, h1⟩, e5, hf, q2⟩ := docR_read (E := E0) (Q := fun v H2 => ∃ n : Int, v = .int n ∧ 0 ≤ n ∧ n < 2 ^ 63 ∧ Q (.int n) H2) gd e1 (fun v H' s' r' => by
    unfold docR at e0
    split at e0
    · split at e0
      · obtain ⟨ks, e5, e6⟩ := bind_some e0
        unfold nilA at e5
        cases e5
        split at e6
        · obtain ⟨z, e7, e8⟩ := bind_some e6
          obtain ⟨n, rfl, h0, h3⟩ := hF _ _ _ _ e7
          split at e8
          · cases e8
            have : v = .int n := rep_int.mp r'
            subst this
            exact ⟨n, rfl, h0, h3, q _ H' s' r'⟩
          · cases e8
        · cases e6
      · cases e0
    · cases e0)
  obtain rfl : ks = [] := by
    unfold nilA at e5
    cases e5
    rfl
  exact ⟨_, ha, a, dx, _, rfl, h1, q2 [] H (Same.refl H) .nil⟩
/-- doc, asked whether it is true -/
theorem dt_own (G : MFnR X.prog X.w X.K X.mg X.base k C "__bool__" F) (hr : Room j X.A) (hk : k ≤ j) (ho : PE X e (tVar i)) (hi : ∀ whole, isTrue e X.env whole = (do let v ← whole; standAt e.pos; holding [v] (truthy v)) := by intro _; rfl) : DPT X B e (fun ρ => (docR i C nilA F ρ).bind asBool) := by
  obtain ⟨f, R, O⟩ := G.ex
  refine ⟨(pt_own ho O R (hr.mono hk) hi).imp fun σ H Q ⟨O, ρ, c, gd, e1, q⟩ => ?_⟩
  obtain ⟨d, e2, e3⟩ := bind_some e1
  obtain ⟨a, l, ks, ha, ⟨dx, vr, h1⟩, e5, hf, q2⟩ := docR_read (E := E0) (O' := NO) (Q := fun v H2 => ∃ c, v = .bl c ∧ Q c H2) gd e2 (fun v H' s' r' => by
    cases d with
    | bool c' =>
      cases e3
      exact ⟨c, rep_bool.mp r', q H' s'⟩
    | _ => cases e3)
  obtain rfl : ks = [] := by
    unfold nilA at e5
    cases e5
    rfl
  exact ⟨_, ha, a, dx, _, rfl, h1, q2 [] H (Same.refl H) .nil⟩
end
end DL

set_option autoImplicit false
/-! defs whose first parameter is a document: their statements may change it, or raise -/
namespace DL
open PySem PySem.Spec
open PyProof.Rows hiding St
open L2
inductive OutM where
  | ok (o : Out) | er (C : Str) (ρ : Rho)
def EndM (mg : Str → Option Value) (B : Base) (O : Addr → Prop) (σ : L2.St) (H : Hp) (ρ : Rho) (E : Ends) (W : WX) : OutM → Prop
  | .ok o => EndS B O σ H ρ E o
  | .er C ρ' => ∀ a σ' H' O', mg C = some (.ref a) → Stp O σ H ρ O' σ' H' ρ' → Good B O' σ' H' ρ' → W (.ref a) none σ' H'
def tSM (mg : Str → Option Value) (B : Base) (W : WX) (F : Rho → Option OutM) : TS := fun E σ H => ∃ O ρ r, Good B O σ H ρ ∧ F ρ = some r ∧ EndM mg B O σ H ρ E W r
structure DSM (X : Cx) (B : Base) (W : WX) (st : Stmt) (F : Rho → Option OutM) : Prop where
  ps : PS X st (tSM X.mg B W F)
structure DSsM (X : Cx) (B : Base) (W : WX) (st : List Stmt) (F : Rho → Option OutM) : Prop where
  ps : PSs X st (tSM X.mg B W F)
@[simp] def okM (F : Rho → Option Out) : Rho → Option OutM := fun ρ => (F ρ).bind fun o => some (.ok o)
@[simp] def seqM (F G : Rho → Option OutM) : Rho → Option OutM := fun ρ => (F ρ).bind fun r => match r with
  | .ok (.nx ρ1) => G ρ1
  | .ok (.rt d ρ1) => some (.ok (.rt d ρ1))
  | .er C ρ1 => some (.er C ρ1)
@[simp] def iteM (c : Rho → Option (Bool × Rho)) (F G : Rho → Option OutM) : Rho → Option OutM := fun ρ => (c ρ).bind fun p => if p.1 = true then F p.2 else G p.2
/-- the datum must be flat: what the def gives back stands alone -/
@[simp] def retM (g : Rho → Option ResD) : Rho → Option OutM := fun ρ => (g ρ).bind fun r => match r with
  | .ok d ρ' => if flat d = true then some (.ok (.rt d ρ')) else none
  | .er C => some (.er C ρ)
@[simp] def dropM (g : Rho → Option ResD) : Rho → Option OutM := fun ρ => (g ρ).bind fun r => match r with
  | .ok _ ρ' => some (.ok (.nx ρ'))
  | .er C => some (.er C ρ)
@[simp] def setM (i : Nat) (g : Rho → Option ResD) : Rho → Option OutM := fun ρ => (g ρ).bind fun r => match r with
  | .ok d ρ' => some (.ok (.nx (ρ'.set i (.dat d))))
  | .er C => some (.er C ρ)
@[simp] def ifM (c : Rho → Option Bool) (g h : Rho → Option ResD) : Rho → Option ResD := fun ρ => (c ρ).bind fun b => if b = true then g ρ else h ρ
section
variable {X : Cx} {B : Base} {W : WX} {e e1 e2 : Expr} {st : Stmt} {sts tts : List Stmt} {F G : Rho → Option OutM} {g h : Rho → Option ResD} {pos : Pos}
theorem EndM.after {O O1 : Addr → Prop} {σ σ1 : L2.St} {H H1 : Hp} {ρ ρ1 : Rho} {E : Ends} {r : OutM} {mg : Str → Option Value} (g : Good B O σ H ρ) (a : Stp O σ H ρ O1 σ1 H1 ρ1) (q : EndM mg B O σ H ρ E W r) : EndM mg B O1 σ1 H1 ρ1 E W r := by
  cases r with
  | ok o => exact EndS.after g a q
  | er C ρ' => exact fun ae σ' H' O' hm s gd => q ae σ' H' O' hm (a.trans g s) gd
theorem dsm_of {Fo : Rho → Option Out} (h : DS X B st Fo) : DSM X B W st (okM Fo) := ⟨h.ps.imp fun E σ H ⟨O, ρ, r, gd, e, q⟩ => by
  obtain ⟨o, e1, e2⟩ := bind_some e
  cases e2
  exact ⟨O, ρ, o, gd, e1, q⟩⟩
theorem dsm_all {Fo : Rho → Option Out} (h : DSs X B sts Fo) : DSsM X B W sts (okM Fo) := ⟨h.ps.imp fun E σ H ⟨O, ρ, r, gd, e, q⟩ => by
  obtain ⟨o, e1, e2⟩ := bind_some e
  cases e2
  exact ⟨O, ρ, o, gd, e1, q⟩⟩
theorem dsm_one (h : DSM X B W st F) : DSsM X B W [st] F := ⟨(pss_one h.ps).imp fun E σ H q => q⟩
theorem dsm_cons (h : DSM X B W st F) (h2 : DSsM X B W sts G) : DSsM X B W (st :: sts) (seqM F G) := ⟨(pss_cons h.ps h2.ps).imp fun E σ H ⟨O, ρ, r, gd, e, q⟩ => by
  obtain ⟨r1, e1, e2⟩ := bind_some e
  refine ⟨O, ρ, r1, gd, e1, ?_⟩
  cases r1 with
  | er C ρ1 =>
    cases e2
    exact q
  | ok o =>
    cases o with
    | rt d ρ1 =>
      cases e2
      exact q
    | nx ρ1 => exact fun σ1 H1 O1 s1 g1 => ⟨O1, ρ1, r, g1, e2, q.after gd s1⟩⟩
theorem dsm_ret (h : DXM X B W e g) : DSM X B W (.Return (some e) pos) (retM g) := ⟨(ps_ret h.pe).imp fun E σ H ⟨O, ρ, r, gd, e, q⟩ => by
  obtain ⟨r1, e1, e2⟩ := bind_some e
  refine ⟨O, ρ, r1, gd, e1, ?_⟩
  cases r1 with
  | er C =>
    cases e2
    exact fun a H' hm x => q a σ H' O hm (.ext x) x.good
  | ok d ρ' =>
    have e3 : (if flat d = true then some (OutM.ok (.rt d ρ')) else none) = some r := e2
    split at e3
    · next hd =>
      cases e3
      exact fun v H' x rv => q v σ H' O (.ext x) x.good (rep_flat d v hd rv)
    · cases e3⟩
theorem dxm_if {c : Rho → Option Bool} {t : Expr} (ht : DPT X B t c) (h1 : DXM X B W e1 g) (h2 : DXM X B W e2 h) : DXM X B W (.IfExp t e1 e2 pos) (ifM c g h) := ⟨(pe_ifExp ht.pt h1.pe h2.pe).imp fun σ H Q ⟨O, ρ, r, gd, e, q⟩ => by
  obtain ⟨b, e3, e4⟩ := bind_some e
  refine ⟨O, ρ, b, gd, e3, fun H1 s1 => ?_⟩
  have q1 : RXD X.mg B O σ ρ H1 Q (fun cls d H' => W cls d σ H') r := by
    cases r with
    | ok d ρ' => exact fun v H' x rv => q v H' ((Ext.of gd s1).trans x) rv
    | er C => exact fun a H' hm x => q a H' hm ((Ext.of gd s1).trans x)
  cases b with
  | true => exact (show tXM X.mg B W g σ H1 Q from ⟨O, ρ, r, gd.same s1, e4, q1⟩)
  | false => exact (show tXM X.mg B W h σ H1 Q from ⟨O, ρ, r, gd.same s1, e4, q1⟩)⟩
end
end DL

set_option autoImplicit false
/-! a def whose first parameter is a document -/
namespace DL
open PySem PySem.Spec
open PyProof.Rows hiding St
open L2
abbrev docB (H : Hp) (l : Addr) : Base := ⟨H, fun b => b = l, fun b => b = l, nolam, Str.empty⟩
theorem good_startD {C : Addr} {H : Hp} {ds sts : List D} {ws : List V} {y : Str} {N : List Str} {a l : Addr} {rl : D} {tot : Nat} (d : DocAt C H a l rl sts) (r : RepL NO H ds ws) (fl : flatL ds = true) (hN : N.length = tot) (hl : ds.length ≤ tot) :
    Good (docB H l) (fun b => b = l) (L2.start (y :: N) (.ref a :: ws)) H (.doc C a l rl sts :: startR tot ds) ∧ ∀ b, Wof (L2.start (y :: N) (.ref a :: ws)) (.doc C a l rl sts :: startR tot ds) b → b = l := by
  have hst : L2.start (y :: N) (.ref a :: ws) = some (.ref a) :: L2.start N ws := by
    unfold L2.start
    simp
  have g1 := good_start (N := N) (O := NO) (fun _ z => z.elim) r hN hl
  obtain ⟨us, hu, _⟩ := d.ls
  have hz : H l ≠ none := some_ne hu
  rw [hst]
  have no : ∀ (i : Nat) s, (Sl.doc C a l rl sts :: startR tot ds)[i]? = some s → isOwn s = true → i = 0 ∧ s = .doc C a l rl sts := fun i s e q => by
    cases i with
    | zero =>
      simp at e; subst e; exact ⟨rfl, rfl⟩
    | succ i =>
      rcases start_get r N hN (by simpa using e) with ⟨d, rfl, _⟩ | rfl
      · cases q
      · cases q
  refine ⟨⟨by simp [g1.len], FrB.start, fun b h => by (have h : b = l := h); subst h; exact hz, fun _ h => h, fun _ h => h, fun b h => by (have h : b = l := h); subst h; exact hz, fun _ h => h, fun i s e => ?_, fun i j s t b e1 e2 q1 q2 _ _ => (no i s e1 q1).1.trans (no j t e2 q2).1.symm⟩, fun b ⟨i, s, e, q, e3⟩ => ?_⟩
  · cases i with
    | zero =>
      simp at e; subst e
      exact ⟨rfl, rfl, .inl rfl, d⟩
    | succ i =>
      have k := g1.slots i s (by simpa using e)
      rcases start_get r N hN (by simpa using e) with ⟨d', rfl, hd⟩ | rfl
      · obtain ⟨v, e1, rv⟩ := k
        have hm : Sl.dat d' ∈ startR tot ds := List.mem_of_getElem? (by simpa using e)
        have hd2 : d' ∈ ds := by
          unfold startR at hm
          rcases List.mem_append.mp hm with hm | hm
          · obtain ⟨d2, h2, e2⟩ := List.mem_map.mp hm
            cases e2
            exact h2
          · have := (List.mem_replicate.mp hm).2
            cases this
        exact ⟨v, by simpa using e1, rep_flat d' v (flatL_mem fl hd2) rv⟩
      · trivial
  · obtain ⟨_, rfl⟩ := no i s e q
    exact (show l = b from e3).symm
open Classical in
/-- the states that the slot 0's document has at the end -/
noncomputable def endD (C a l : Addr) (rl : D) (ρ : Rho) : Option (List D) := match ρ[(0 : Nat)]? with
  | some (.doc C' a' l' rl' sts') => if C' = C ∧ a' = a ∧ l' = l ∧ rl' = rl then some sts' else none
  | _ => none
open Classical in
noncomputable def runM (C : Addr) (n tot : Nat) (b : Rho → Option OutM) : Addr → Addr → D → List D → List D → Option ResM := fun a l rl sts ds => if ds.length = n then (b (.doc C a l rl sts :: startR tot ds)).bind fun r => (match r with
  | .ok (.rt d ρ') => (endD C a l rl ρ').bind fun sts' => if flat d = true then some (.ok d sts') else none
  | .ok (.nx ρ') => (endD C a l rl ρ').bind fun sts' => some (.ok .none sts')
  | .er x ρ' => (endD C a l rl ρ').bind fun sts' => if sts' = sts then some (.er x) else none) else none
theorem endD_read {C a l : Addr} {rl : D} {sts' : List D} {B : Base} {O O' : Addr → Prop} {σ σ' : L2.St} {H H' : Hp} {ρ ρ' : Rho} (e : endD C a l rl ρ' = some sts') (hw : ∀ b, Wof σ ρ b → b = l) (s : Stp O σ H ρ O' σ' H' ρ') (g : Good B O' σ' H' ρ') : But l H H' ∧ DocAt C H' a l rl sts' := by
  unfold endD at e
  split at e
  · next C' a' l' rl' sts2 hi =>
    split at e
    · next h =>
      obtain ⟨rfl, rfl, rfl, rfl⟩ := h
      cases e
      exact ⟨⟨fun b o n eo t => s.keep.keep b o eo (fun z => n (hw b z)) t, s.keep.tb⟩, (g.slots 0 _ hi).2.2.2⟩
    · cases e
  · cases e
section
variable {P : Program} {w : World} {K : PySem.W.Frag} {mg : Str → Option Value} {base : Heap}
theorem fnd_mk {x y : Str} {st : Stmt} {f : Addr} {fd : FuncData} {N ps : List Str} {C : Addr} {k n tot : Nat} {b : Rho → Option OutM} (F : L2.Fun K x x st f fd) (S : FnScope (y :: N) (y :: ps) (defScope st)) (hN : N.length = tot) (hn : ps.length = n)
    (hb : ∀ (B : Base) (cdv : Value) (A : Around) (outer : List PySem.Env) (s : Shared) (H : Hp) (E : XK), Room k (A.deeper (envOfC x (defScope st) s.heap.objs.size f cdv)) → DSsM (cxOf (L2N.CX P w) P w K mg base (y :: N) x (defScope st) f cdv A outer s H E) B (WD E) (defBody st) b) :
    FnOk P w K mg base (L2N.CX P w) (k + 1) f fd (y :: ps) (spMX mg C (runM C n tot b)) := by
  have hpl : (y :: ps).length ≤ (y :: N).length := by have := congrArg List.length S.pre; rw [List.length_take] at this; omega
  simp only [List.length_cons] at hpl
  obtain ⟨oc, od, kV, doc, pm, an, cdv, ct, osl, rfl, lk, hcd⟩ := F.ex
  refine fn_of lk hcd S (fun vs H Q E h => ?_) (fun A outer s H vs Q E hr h => ?_)
  · obtain ⟨a, l, rl, sts, ds, ws, r, rfl, d, rw, fl, e, q⟩ := h
    unfold runM at e
    split at e
    · next hl => rw [List.length_cons, List.length_cons, ← rw.length, hl, hn]
    · cases e
  · obtain ⟨a, l, rl, sts, ds, ws, r, rfl, d, rw, fl, e, q⟩ := h
    unfold runM at e
    split at e
    · next hl =>
      obtain ⟨o, e1, e2⟩ := bind_some e
      obtain ⟨gd, hw⟩ := good_startD (y := y) (N := N) (tot := tot) d rw fl hN (by omega)
      refine ⟨_, (hb (docB H l) cdv A outer s H E hr).ps, _, _, o, gd, e1, ?_⟩
      cases o with
      | er C2 ρ' =>
        obtain ⟨sts', e3, e4⟩ := bind_some e2
        split at e4
        · next hs =>
          subst hs
          cases e4
          refine fun ae σ' H' O' hm s2 g2 => ?_
          obtain ⟨b1, d1⟩ := endD_read e3 hw s2 g2
          exact q ae H' hm b1 d1
        · cases e4
      | ok o =>
        cases o with
        | nx ρ' =>
          obtain ⟨sts', e3, e4⟩ := bind_some e2
          cases e4
          refine fun σ' H' O' s2 g2 => ?_
          obtain ⟨b1, d1⟩ := endD_read e3 hw s2 g2
          exact q .non H' b1 d1 (rep_none.mpr rfl)
        | rt z ρ' =>
          obtain ⟨sts', e3, e4⟩ := bind_some e2
          split at e4
          · next hz =>
            cases e4
            refine fun v σ' H' O' s2 g2 rv => ?_
            obtain ⟨b1, d1⟩ := endD_read e3 hw s2 g2
            exact q v H' b1 d1 (rep_flat z v hz rv)
          · cases e4
    · cases e
end
end DL

set_option autoImplicit false
/-! statements over DXM; a def with a document called -/
namespace DL
open PySem PySem.Spec
open PyProof.Rows hiding St
open L2
section
variable {X : Cx} {B : Base} {W : WX} {e : Expr} {es : List Expr} {sts tts : List Stmt} {F G : Rho → Option OutM} {g : Rho → Option ResD} {c : Rho → Option (Bool × Rho)} {pos p' p : Pos}
theorem dsm_expr (h : DXM X B W e g) (hs : swapsWith e none pos.line X.env = pure false := by rfl) : DSM X B W (.Expr e pos) (dropM g) := ⟨(ps_expr h.pe hs).imp fun E σ H ⟨O, ρ, r, gd, e, q⟩ => by
  obtain ⟨r1, e1, e2⟩ := bind_some e
  refine ⟨O, ρ, r1, gd, e1, ?_⟩
  cases r1 with
  | ok d ρ' =>
    cases e2
    exact fun v H1 x rv => q σ H1 O (.ext x) x.good
  | er C =>
    cases e2
    exact fun a H' hm x => q a σ H' O hm (.ext x) x.good⟩
theorem dsm_if (hc : DET X.nox B e c) (h1 : DSsM X B W sts F) (h2 : DSsM X B W tts G) : DSM X B W (.If e sts tts pos) (iteM c F G) := ⟨(ps_if hc.pt.nox h1.ps h2.ps).imp fun E σ H ⟨O, ρ, r, gd, e, q⟩ => by
  obtain ⟨⟨k, ρ1⟩, e1, e2⟩ := bind_some e
  refine ⟨O, ρ, k, ρ1, gd, e1, fun H1 s1 => ?_⟩
  cases k with
  | true => exact ⟨O, ρ1, r, s1.good, e2, q.after gd (.ext s1)⟩
  | false => exact ⟨O, ρ1, r, s1.good, e2, q.after gd (.ext s1)⟩⟩
theorem dsm_set {i : Nat} {x : Str} (hN : X.N.Nodup) (hi : X.N[i]? = some x) (hx : Loc X.env.scope x) (h : DXM X B W e g) (hs : swapsWith e (some (.Name x p')) pos.line X.env = pure false := by rfl) (hf : X.fn x = true ∨ X.env.scope.names.lookup x = some .local := by first | exact .inl rfl | exact .inr rfl | assumption) :
    DSM X B W (.Assign [.Name x p'] e pos) (setM i g) := ⟨(ps_set hN hi hx h.pe hs hf).imp fun E σ H ⟨O, ρ, r, gd, e, q⟩ => by
  obtain ⟨r1, e1, e2⟩ := bind_some e
  refine ⟨O, ρ, r1, gd, e1, ?_⟩
  cases r1 with
  | ok d ρ' =>
    cases e2
    refine fun v H1 x rv => ?_
    obtain ⟨g2, w2⟩ := x.good.set (i := i) rv
    exact q _ H1 O ⟨x.keep, fun _ h => .inl h, fun _ h => h, fun b h => .inl (x.w b (w2 b h))⟩ g2
  | er C =>
    cases e2
    exact fun a H' hm x => q a σ H' O hm (.ext x) x.good⟩
/-- a def that gets a document, and flat data -/
structure FnD (P : Program) (w : World) (K : PySem.W.Frag) (mg : Str → Option Value) (base : Heap) (k : Nat) (C : Addr) (x : Str) (Fx : Addr → Addr → D → List D → List D → Option ResM) : Prop where
  ex : ∃ f fd ps, FnOk P w K mg base (L2N.CX P w) k f fd ps (spMX mg C Fx) ∧ mg x = some (.ref f) ∧ PySem.W.keepIn K (.ref f) = true ∧ Binds K fd ps []
theorem dxm_fn {i k j : Nat} {C : Addr} {x : Str} {o : Expr} {gs : Rho → Option (List D)} {Fx : Addr → Addr → D → List D → List D → Option ResM} (hF : FnD X.prog X.w X.K X.mg X.base k C x Fx) (tk : L2N.Takes X W) (hr : Room j X.A) (hk : k ≤ j) (ho : PE X o (tVar i)) (ha : DPA X B .bas es gs) (hg : Gl X x := by rfl) (hdb : (x == ("__debug__" : Str)) = false := by decide)
    (he : starEach (o :: es) X.env = (false, eval o X.env) :: starEach es X.env := by rfl) (hpl : (backTo pos (starEach es X.env)).any (·.1) = false := by rfl) : DXM X B W (.Call (.Name x p) (o :: es) [] pos) (docG i C gs Fx) := by
  obtain ⟨f, fd, ps, R, hm, kp, b⟩ := hF.ex
  refine ⟨(pe_callS R (hr.mono hk) hg hm kp b (fun σ => L2N.passAt tk σ) (pa_cons ho ha.pa he) hdb he hpl).imp fun σ H Q ⟨O, ρ, r, gd, e1, q⟩ => ?_⟩
  obtain ⟨a, l, ks, ha', ⟨dx, vr, hH⟩, e5, hf, q2⟩ := docG_read (X := X) gd e1 q
  exact ⟨.ref a, ha', O, ρ, ks, gd, e5, fun vs H2 s2 r2 => q2 vs H2 s2 (repL_flat _ _ hf r2)⟩
end
end DL

set_option autoImplicit false
/-! undo -/
namespace DL
open PySem PySem.Spec
open PyProof.Rows hiding St
open L2
theorem flatL_dropLast : ∀ {ds : List D}, flatL ds = true → flatL ds.dropLast = true
  | [], _ => rfl
  | [d], _ => rfl
  | d :: e :: ds, h => by
    simp only [flatL, Bool.and_eq_true] at h
    rw [List.dropLast_cons₂]
    simp only [flatL, Bool.and_eq_true]
    exact ⟨h.1, flatL_dropLast (ds := e :: ds) (by simp only [flatL, Bool.and_eq_true]; exact h.2)⟩
def undoF (pre : Addr → D → List D → Rho → Option OutX) : Addr → Addr → D → List D → List D → Option ResM := fun a _ rl sts ds => if ds.length = 0 then (pre a rl sts [.raw (.ref a)]).bind fun o => (match o with
  | .er C => some (.er C)
  | .ok (.rt _ _) => none
  | .ok (.nx ρ1) => (selfD a .none ρ1).bind fun _ => if sts.length = 0 then none else some (.ok .none sts.dropLast)) else none
section
variable {P : Program} {w : World} {K : PySem.W.Frag} {mg : Str → Option Value} {base : Heap} {C : Addr}
theorem undo_mk {nm qual y : Str} {st : Stmt} {f : Addr} {fd : FuncData} {k : Nat} {pre : Addr → D → List D → Rho → Option OutX} (F : L2.Fun K nm qual st f fd) (S : FnScope [y] [y] (defScope st)) (cx : ClsX K C)
    (hb : ∀ (B : Base) (a l : Addr) (rl : D) (sts : List D) (cdv : Value) (A : Around) (outer : List PySem.Env) (s : Shared) (H : Hp) (E : XK), Room k (A.deeper (envOfC qual (defScope st) s.heap.objs.size f cdv)) →
      DocCx (cxOf (L2N.CX P w) P w K mg base [y] qual (defScope st) f cdv A outer s H E) B C a l rl sts →
      PSs (cxOf (L2N.CX P w) P w K mg base [y] qual (defScope st) f cdv A outer s H E) (defBody st) (tMX mg B (WD E) (pre a rl sts) (tDrop (tBM0 K "list" rPop (tFld K (tVar 0) "states"))))) :
    FnOk P w K mg base (L2N.CX P w) (k + 1) f fd [y] (spMX mg C (undoF pre)) := by
  obtain ⟨oc, od, kV, doc, pm, an, cdv, ct, osl, rfl, lk, hcd⟩ := F.ex
  refine fn_of lk hcd S (fun vs H Q E h => ?_) (fun A outer s H vs Q E hr h => ?_)
  · obtain ⟨a, l, rl, sts, ds, ws, r, rfl, d, rw, fl, e, q⟩ := h
    unfold undoF at e
    split at e
    · next hl => rw [List.length_cons, ← rw.length, hl]; rfl
    · cases e
  · obtain ⟨a, l, rl, sts, ds, ws, r, rfl, d, rw, fl, e, q⟩ := h
    unfold undoF at e
    split at e
    · next hl =>
      obtain rfl : ds = [] := List.length_eq_zero_iff.mp hl
      obtain rfl : ws = [] := List.length_eq_zero_iff.mp (by rw [← rw.length]; rfl)
      obtain ⟨o, e3, e4⟩ := bind_some e
      refine ⟨_, hb ⟨H, NO, NO, nolam, Str.empty⟩ a l rl sts cdv A outer s H E hr ⟨cx, d, fun _ z => z, rfl⟩, NO, _, o, good_startM (N := []) (tot := 0) rw rfl (Nat.le_refl 0), e3, ?_⟩
      cases o with
      | er x =>
        cases e4
        exact fun ae σ' H' hm f => q ae H' hm (.same (f.out fun _ z => z)) (d.same (f.out fun _ z => z))
      | ok o =>
        cases o with
        | rt z ρ' => cases e4
        | nx ρ1 =>
          obtain ⟨_, e8, e7⟩ := bind_some e4
          split at e7
          · cases e7
          · next hn =>
            cases e7
            refine fun σ1 H1 O1 s1 g1 => ?_
            have h0 := (slot0 g1 e8).2
            have sm : Same H H1 := g1.frame.out fun _ z => z
            have d1 := d.same sm
            obtain ⟨dx, vr, h1, r1⟩ := d1.ob
            obtain ⟨us, h2, r2⟩ := d1.ls
            have len := r2.length
            have hlt : us.length - 1 < us.length := by omega
            have bt : But l H1 (upd H1 l (.lst us.dropLast)) := .of (.lst h2) fun c o n e => by rw [upd_ne n]; exact e
            refine ⟨_, h0, a, C, dx, _, .ref l, rfl, h1, cx.cls, cx.ns, dfs_states _ _, .inl ⟨rfl, us, .of h2⟩, l, us, _, rfl, rfl, h2, List.getElem?_eq_getElem hlt, ?_⟩
            exact q .non _ ((But.same sm).trans bt) (d1.but bt upd_same (bt.repL h2 (flatL_dropLast d1.fs) r2.dropLast) (flatL_dropLast d1.fs)) (rep_none.mpr rfl)
    · cases e
end
end DL

set_option autoImplicit false
/-! x in doc; a loop over DXM statements -/
namespace DL
open PySem PySem.Spec
open PyProof.Rows hiding St
open L2
@[simp] def forLM (b : D → Rho → Option Rho) (F : Rho → Option OutM) : List D → Rho → Option OutM
  | [], ρ => some (.ok (.nx ρ))
  | d :: ds, ρ => (b d ρ).bind fun ρ1 => (F ρ1).bind fun r => match r with
    | .ok (.nx ρ2) => forLM b F ds ρ2
    | .ok (.rt z ρ2) => some (.ok (.rt z ρ2))
    | .er C ρ2 => some (.er C ρ2)
@[simp] def forM (fs : Rho → Option (List D × Rho)) (b : D → Rho → Option Rho) (F : Rho → Option OutM) : Rho → Option OutM := fun ρ => (fs ρ).bind fun p => forLM b F p.1 p.2
section
variable {X : Cx} {B : Base} {W : WX} {tg e : Expr} {sts : List Stmt} {is : List Nat} {b : D → Rho → Option Rho} {F : Rho → Option OutM} {fs : Rho → Option (List D × Rho)} {pos p : Pos}
theorem dsm_for (hp : PassesOwn (model X.prog X.w) X.A X.env X.xe) (hc : X.calm = true) (hi : DIE X B tg e fs) (hg : DG X B tg is b) (hb : DSsM X B W sts F) (hs : ∀ x, foldedSetIterable e X.env x = pure x := by intro _; rfl) : DSM X B W (.For tg e sts [] pos) (forM fs b F) :=
  ⟨(ps_for hp hc hi.pi hg.pg hb.ps hs).imp fun E σ H ⟨O, ρ, r, gd, e, q⟩ => by
    obtain ⟨⟨ds, ρ0⟩, e1, e2⟩ := bind_some e
    refine ⟨O, ρ, ds, ρ0, gd, e1, fun J H0 x0 ⟨G, g0, gm, ggo, gst, gy⟩ => ?_⟩
    refine ⟨fun i m σi Hi => m = ds.length - i ∧ i ≤ ds.length ∧ ∃ Oi ρi, Good B Oi σi Hi ρi ∧ Stp O σ H ρ Oi σi Hi ρi ∧ G Oi Hi ∧ forLM b F (ds.drop i) ρi = some r, ⟨ds.length, by simp, Nat.zero_le _, O, ρ0, x0.good, .ext x0, g0, by simpa using e2⟩, ?_⟩
    rintro i m σi Hi ⟨rfl, hi, Oi, ρi, gi, si, Gi, ei⟩
    by_cases hlt : i < ds.length
    · have ed : ds.drop i = ds[i] :: ds.drop (i + 1) := List.drop_eq_getElem_cons hlt
      rw [ed] at ei
      obtain ⟨ρ1, e3, e4⟩ := bind_some ei
      obtain ⟨r1, e5, e6⟩ := bind_some e4
      refine .inr ⟨ggo i Oi Hi hlt Gi, fun σ' H' => i + 1 ≤ ds.length ∧ ∃ O' ρ', Good B O' σ' H' ρ' ∧ Stp O σ H ρ O' σ' H' ρ' ∧ G O' H' ∧ forLM b F (ds.drop (i + 1)) ρ' = some r, fun σ' H' ⟨h1, h2⟩ => ⟨ds.length - (i + 1), by omega, rfl, h1, h2⟩, fun x H1 y => ?_⟩
      obtain ⟨d, ed2, s1, rx⟩ := gy i Oi Hi x H1 hlt gi.otrk Gi y
      have ed3 : ds[i] = d := by
        rw [List.getElem?_eq_getElem hlt] at ed2
        exact Option.some.inj ed2
      subst ed3
      refine ⟨Oi, ρi, _, ρ1, gi.same s1, rx, e3, fun σ2 g2 w2 _ _ => ⟨Oi, ρ1, r1, g2, e5, ?_⟩⟩
      have st2 : Stp O σ H ρ Oi σ2 H1 ρ1 := si.trans gd ⟨.of s1, fun _ h => .inl h, fun _ h => h, fun b h => .inl (w2 b h)⟩
      cases r1 with
      | er C ρ2 =>
        cases e6
        exact fun a σ' H' O' hm s3 g3 => q a σ' H' O' hm (st2.trans gd s3) g3
      | ok o =>
        cases o with
        | nx ρ2 =>
          exact fun σ' H' O' s3 g3 => ⟨hlt, O', ρ2, g3, st2.trans gd s3, gm _ _ _ _ (s3.mv g2) (gm _ _ _ _ (.same s1) Gi), e6⟩
        | rt z ρ2 =>
          cases e6
          exact fun v σ' H' O' s3 g3 r3 => q v σ' H' O' (st2.trans gd s3) g3 r3
    · have en : i = ds.length := by omega
      subst en
      rw [List.drop_length] at ei
      cases ei
      exact .inl ⟨gst Oi Hi Gi, q σi Hi Oi si gi⟩⟩
end
end DL

set_option autoImplicit false
/-! x in doc -/
namespace DL
open PySem PySem.Spec
open PyProof.Rows hiding St
open L2
section
variable {X : Cx} {B : Base} {md : Md} {i : Nat} {C : Addr} {gx : Rho → Option D} {F : Addr → D → List D → List D → Option D} {k j : Nat} {ex o : Expr} {pos : Pos}
theorem dp_inD (G : MFnR X.prog X.w X.K X.mg X.base k C "__contains__" F) (hr : Room j X.A) (hk : k ≤ j) (hx : DP X B .bas ex gx) (ho : PE X o (tVar i)) (hF : ∀ a rl sts ds d, F a rl sts ds = some d → ∃ c, d = .bool c) (hm : behindInMarks .In o = false := by rfl) : DP X B md (.Compare ex [.In] [o] pos) (docR i C (consA gx nilA) F) := by
  obtain ⟨f, R, O⟩ := G.ex
  refine ⟨(pe_cmpR (op_inOwn O R (hr.mono hk)) hx.pe ho hm).imp fun σ H Q ⟨O, ρ, d, gd, e1, q⟩ => ?_⟩
  have e0 := e1
  obtain ⟨a, l, ks, ha, ⟨dx, vr, h1⟩, e5, hf, q2⟩ := docR_read (E := E0) (Q := fun v H2 => ∃ c, v = .bl c ∧ Q (.bl (id c)) H2) gd e1 (fun v H' s' r' => by
    unfold docR at e0
    split at e0
    · split at e0
      · obtain ⟨ks, e5, e6⟩ := bind_some e0
        split at e6
        · obtain ⟨z, e7, e8⟩ := bind_some e6
          obtain ⟨n, rfl⟩ := hF _ _ _ _ _ e7
          split at e8
          · cases e8
            have : v = .bl n := rep_bool.mp r'
            subst this
            exact ⟨n, rfl, q _ H' s' r'⟩
          · cases e8
        · cases e6
      · cases e0
    · cases e0)
  have e6 : (gx ρ).bind (fun d => some [d]) = some ks := by simpa using e5
  obtain ⟨d1, e7, e8⟩ := bind_some e6
  cases e8
  refine ⟨O, ρ, d1, gd, e7, fun v H1 s1 r1 => ⟨_, ha, a, dx, _, rfl, s1 _ _ h1, ?_⟩⟩
  exact q2 [v] H1 s1 (.one (rep_flat d1 v (by simpa [flatL] using hf) r1))
end
end DL

/-! a slot gets a new document -/
namespace DL
open PySem PySem.Spec
open PyProof.Rows hiding St
open L2
section
variable {B : Base} {O O' O1 O2 : Addr → Prop} {σ σ1 σ2 : L2.St} {H H' H1 H2 : Hp} {ρ ρ' ρ1 ρ2 : Rho}
theorem Good.setDoc (g : Good B O σ H ρ) {i : Nat} {C x a : Addr} {rl : D} {ss : List D} (s : Same H H') (ha : H a = Option.none) (r : DocAt C H' x a rl ss) :
    Good B (fun b => O b ∨ b = a) (σ.set i (some (.ref x))) H' (ρ.set i (.doc C x a rl ss)) ∧ Stp O σ H ρ (fun b => O b ∨ b = a) (σ.set i (some (.ref x))) H' (ρ.set i (.doc C x a rl ss)) := by
  obtain ⟨n1, n2, n3⟩ := g.fresh ha
  obtain ⟨vs, ha', _⟩ := id r.ls
  have hout : ∀ b, (O b ∨ b = a) → O b ∨ H b = Option.none := fun b h => by
    rcases h with h | h
    · exact .inl h
    · exact .inr (by rw [h]; exact ha)
  have mv : Mv O H (fun b => O b ∨ b = a) H' := ⟨fun b o e _ n => s.keep b o e n, hout⟩
  have hne : ∀ (j : Nat) t b, ρ[j]? = some t → isOwn t = true → adr t σ[j]? b → b ≠ a := fun j t b e q e3 z => by
    obtain ⟨_, vs, h⟩ := g.wof ⟨j, t, e, q, e3⟩
    rw [z, ha] at h; cases h
  refine ⟨⟨by simp [g.len], g.frame.same s, g.o0, g.r0, fun b h => .inl (g.osub b h), fun b h => ?_, fun b h => s.ne (g.h0 b h), fun j t e => ?_, fun j k t u b e1 e2 q1 q2 e3 e4 => ?_⟩, ⟨.of s, hout, fun b h => .inl h, fun b ⟨j, t, e, q, e3⟩ => ?_⟩⟩
  · rcases h with h | h
    · exact s.ne (g.otrk b h)
    · rw [h]; exact some_ne ha'
  · by_cases hj : i = j
    · subst hj
      have hl : i < ρ.length := by
        by_cases hl : i < ρ.length
        · exact hl
        · rw [List.getElem?_eq_none (by simpa using hl)] at e; cases e
      rw [List.getElem?_set_self hl] at e
      cases e
      rw [List.getElem?_set_self (by rw [g.len]; exact hl)]
      exact ⟨rfl, .inr rfl, .inr ⟨n2, n3⟩, r⟩
    · rw [get_set_ne hj] at e
      rw [get_set_ne hj]
      have k := g.slots j t e
      cases t with
      | nil => trivial
      | dat d => exact SlOk.mv mv rfl k
      | own es => obtain ⟨b, us, e1, h1, h2, h3, h4, r4⟩ := k; exact ⟨b, us, e1, .inl h1, h2, h3, s b _ h4, RepL.mv mv _ _ r4⟩
      | bag es => obtain ⟨b, us, e1, h1, h2, h4, r4⟩ := k; exact ⟨b, us, e1, h1, .inl h2, s b _ h4, RepL.mv mv _ _ r4⟩
      | raw v => exact k
      | lam ks => exact SlOk.mv mv rfl k
      | doc C2 x2 l rl2 sts => exact SlOk.mvD mv .inl (fun us e => s l _ e) k
  · by_cases hj : i = j
    · by_cases hk : i = k
      · rw [← hj, ← hk]
      · subst hj
        rw [get_set_ne hk] at e2 e4
        have hl : i < ρ.length := by
          by_cases hl : i < ρ.length
          · exact hl
          · rw [List.getElem?_eq_none (by simpa using hl)] at e1; cases e1
        rw [List.getElem?_set_self hl] at e1
        cases e1
        obtain rfl : a = _ := e3
        exact absurd rfl (hne k u _ e2 q2 e4)
    · by_cases hk : i = k
      · subst hk
        rw [get_set_ne hj] at e1 e3
        have hl : i < ρ.length := by
          by_cases hl : i < ρ.length
          · exact hl
          · rw [List.getElem?_eq_none (by simpa using hl)] at e2; cases e2
        rw [List.getElem?_set_self hl] at e2
        cases e2
        obtain rfl : a = _ := e4
        exact absurd rfl (hne j t _ e1 q1 e3)
      · rw [get_set_ne hj] at e1 e3
        rw [get_set_ne hk] at e2 e4
        exact g.sep j k t u b e1 e2 q1 q2 e3 e4
  · by_cases hj : i = j
    · subst hj
      have hl : i < ρ.length := by
        by_cases hl : i < ρ.length
        · exact hl
        · rw [List.getElem?_eq_none (by simpa using hl)] at e; cases e
      rw [List.getElem?_set_self hl] at e
      cases e
      obtain rfl : a = _ := e3
      exact .inr ha
    · rw [get_set_ne hj] at e e3
      exact .inl ⟨j, t, e, q, e3⟩
end
end DL

set_option autoImplicit false
/-! statements by weakest preconditions: where a document is made -/
namespace DL
open PySem PySem.Spec
open PyProof.Rows hiding St
open L2
abbrev FW := Rho → (Out → Prop) → Prop
def tSW (B : Base) (Fw : FW) : TS := fun E σ H => ∃ O ρ Post, Good B O σ H ρ ∧ Fw ρ Post ∧ ∀ r, Post r → EndS B O σ H ρ E r
structure DSW (X : Cx) (B : Base) (st : Stmt) (Fw : FW) : Prop where
  ps : PS X st (tSW B Fw)
structure DSsW (X : Cx) (B : Base) (st : List Stmt) (Fw : FW) : Prop where
  ps : PSs X st (tSW B Fw)
@[simp] def ofW (F : Rho → Option Out) : FW := fun ρ Post => ∃ r, F ρ = some r ∧ Post r
@[simp] def seqW (Fw Gw : FW) : FW := fun ρ Post => Fw ρ fun r => match r with
  | .nx ρ1 => Gw ρ1 Post
  | .rt d ρ1 => Post (.rt d ρ1)
section
variable {X : Cx} {B : Base} {st : Stmt} {sts : List Stmt} {F : Rho → Option Out} {Fw Gw : FW}
theorem dsw_of (h : DS X B st F) : DSW X B st (ofW F) := ⟨h.ps.imp fun E σ H ⟨O, ρ, Post, gd, ⟨r, e, hp⟩, q⟩ => ⟨O, ρ, r, gd, e, q r hp⟩⟩
theorem dsw_all (h : DSs X B sts F) : DSsW X B sts (ofW F) := ⟨h.ps.imp fun E σ H ⟨O, ρ, Post, gd, ⟨r, e, hp⟩, q⟩ => ⟨O, ρ, r, gd, e, q r hp⟩⟩
theorem dsw_one (h : DSW X B st Fw) : DSsW X B [st] Fw := ⟨(pss_one h.ps).imp fun E σ H q => q⟩
theorem dsw_cons (h : DSW X B st Fw) (h2 : DSsW X B sts Gw) : DSsW X B (st :: sts) (seqW Fw Gw) := ⟨(pss_cons h.ps h2.ps).imp fun E σ H ⟨O, ρ, Post, gd, hF, q⟩ => by
  refine ⟨O, ρ, _, gd, hF, fun r hr => ?_⟩
  cases r with
  | nx ρ1 => exact fun σ1 H1 O1 s1 g1 => ⟨O1, ρ1, Post, g1, hr, fun r2 h2 => EndS.after gd s1 (q r2 h2)⟩
  | rt d ρ1 => exact q _ hr⟩
end
end DL

set_option autoImplicit false
/-! x = Document(e) -/
namespace DL
open PySem PySem.Spec
open PyProof.Rows hiding St
open L2
/-- for all addresses that the new document may get -/
def newW (i : Nat) (C : Addr) (chk : Addr → D → Option D) (st0 : D) (g : Rho → Option D) : FW := fun ρ Post => ∃ d rl, g ρ = some d ∧ flat d = true ∧ flat rl = true ∧ (∀ a, chk a d = some rl) ∧ ∀ a l, Post (.nx (ρ.set i (.doc C a l rl [st0])))
section
variable {X : Cx} {B : Base} {i : Nat} {C : Addr} {chk : Addr → D → Option D} {st0 : D} {g : Rho → Option D} {k j : Nat} {x y : Str} {e : Expr} {p p' pos pos2 : Pos}
theorem dsw_new (G : IFn X.prog X.w X.K X.mg X.base k C x chk st0) (hr : Room (j + 1) X.A) (hk : k ≤ j) (hd : DP X B .bas e g) (hN : X.N.Nodup) (hi : X.N[i]? = some y) (hx : Loc X.env.scope y) (hg : Gl X x := by rfl) (hdb : (x == ("__debug__" : Str)) = false := by decide)
    (he : starEach (e :: []) X.env = (false, eval e X.env) :: starEach [] X.env := by rfl) (hpl : (backTo pos (starEach [] X.env)).any (·.1) = false := by rfl)
    (hs : swapsWith (.Call (.Name x p) [e] [] pos) (some (.Name y p')) pos2.line X.env = pure false := by rfl) (hf : X.fn y = true ∨ X.env.scope.names.lookup y = some .local := by first | exact .inl rfl | exact .inr rfl | assumption) :
    DSW X B (.Assign [.Name y p'] (.Call (.Name x p) [e] [] pos) pos2) (newW i C chk st0 g) := by
  obtain ⟨f, fd, ps, R, b, M, hm⟩ := G.ex
  refine ⟨(ps_set hN hi hx (pe_make M R (hr.mono (by omega)) hg hm b .nil pass0 (pa_cons hd.pe pa_nil he) hdb he hpl) hs hf).imp fun E σ H ⟨O, ρ, Post, gd, ⟨d, rl, e1, f1, f2, hc, hp⟩, q⟩ => ?_⟩
  refine ⟨O, ρ, d, gd, e1, fun v H1 s1 r1 a dx nx nd ne => ?_⟩
  have n1 : upd H1 dx (.own a) a = none := by rw [upd_ne ne.symm]; exact nx
  have sm : Same H (upd (upd H1 dx (.own a)) a (.ins C dx [])) := s1.trans ((same_upd nd).trans (same_upd n1))
  refine ⟨a, dx, v, d, rl, rfl, upd_same, rep_flat d v f1 (r1.same ((same_upd nd).trans (same_upd n1))), hc a, f2, fun l H2 hl bt dk => ⟨rfl, ?_⟩⟩
  have s2 : Same H H2 := s1.trans (Same.madeB nx nd bt)
  have hl0 : H l = none := sm.free hl
  obtain ⟨g2, w2⟩ := gd.setDoc (i := i) s2 hl0 dk
  exact q _ (hp a l) _ _ _ w2 g2
end
end DL

set_option autoImplicit false
/-! calls that do not raise, as drawing expressions; `and` of such; a document compared -/
namespace DL
open PySem PySem.Spec
open PyProof.Rows hiding St
open L2
@[simp] def deM (g : Rho → Option ResD) : Rho → Option (D × Rho) := fun ρ => (g ρ).bind fun r => match r with
  | .ok d ρ' => some (d, ρ')
  | .er _ => none
@[simp] def andVE (fa fb : Rho → Option (D × Rho)) : Rho → Option (D × Rho) := fun ρ => (fa ρ).bind fun p => (asBool p.1).bind fun c => if c = true then fb p.2 else some (.bool false, p.2)
section
variable {X : Cx} {B : Base} {W : WX} {e a b : Expr} {es : List Expr} {g : Rho → Option ResD} {fa fb f : Rho → Option (D × Rho)} {pos : Pos}
theorem de_ofM (h : DXM X B W e g) : DE X B e (deM g) := ⟨h.pe.imp fun σ H Q ⟨O, ρ, d, ρ', gd, e, q⟩ => by
  obtain ⟨r, e1, e2⟩ := bind_some e
  refine ⟨O, ρ, r, gd, e1, ?_⟩
  cases r with
  | ok d' ρ2 =>
    cases e2
    exact q
  | er C => cases e2⟩
theorem de_one {op} (h : DE X B a f) : DE X B (.BoolOp op [a] pos) f := ⟨pe_one h.pe⟩
theorem de_and (h : DE X B a fa) (h2 : DE X B (.BoolOp .And (b :: es) pos) fb) : DE X B (.BoolOp .And (a :: b :: es) pos) (andVE fa fb) := ⟨(pe_and h.pe h2.pe).imp fun σ H Q ⟨O, ρ, d, ρ', gd, e, q⟩ => by
  obtain ⟨⟨d1, ρ1⟩, e1, e2⟩ := bind_some e
  obtain ⟨c, e3, e4⟩ := bind_some e2
  cases asBool_some e3
  refine ⟨O, ρ, _, ρ1, gd, e1, fun v H1 s1 r1 => ⟨c, rep_bool.mp r1, ?_⟩⟩
  cases c with
  | false =>
    cases e4
    exact q _ H1 s1 (rep_bool.mpr rfl)
  | true => exact ⟨O, ρ1, d, ρ', s1.good, e4, fun v H2 s2 r => q v H2 (s1.trans s2) r⟩⟩
end
/-! ### fields of a document at a name -/
@[simp] def selfK (k : Nat) (v : V) (d : D) : Rho → Option D := fun ρ => match ρ[k]? with
  | some (.raw u) => if u = v then some d else none
  | _ => none
section
variable {X : Cx} {B : Base} {m : Md} {C a l : Addr} {rl ls : D} {sts : List D} {e : Expr} {k : Nat} {pos : Pos}
theorem slotK {O : Addr → Prop} {σ : L2.St} {H : Hp} {ρ : Rho} {d z : D} {v : V} (gd : Good B O σ H ρ) (h : selfK k v d ρ = some z) : d = z ∧ σ[k]? = some (some v) := by
  unfold selfK at h
  split at h
  · next u e =>
    split at h
    · next hv =>
      cases h
      have q := gd.slots k _ e
      subst hv
      exact ⟨rfl, q⟩
    · cases h
  · cases h
theorem dp_ruleK (c : DocCx X B C a l rl sts) (he : PE X e (tVar k)) (hb : attributeBase e "rule" X.env (eval e X.env) = eval e X.env := by rfl) : DP X B m (.Attribute e "rule" pos) (selfK k (.ref a) rl) := ⟨(pe_fld he hb).imp fun σ H Q ⟨O, ρ, d, gd, e1, q⟩ => by
  obtain ⟨rfl, es⟩ := slotK gd e1
  obtain ⟨dx, vr, h1, r1⟩ := (c.at_.same (c.same gd)).ob
  exact ⟨_, es, a, C, dx, _, vr, rfl, h1, c.x.cls, c.x.nr, dfs_rule _ _, q vr H (Same.refl H) (rep_flat _ _ c.at_.fr r1)⟩⟩
theorem dp_statesK (c : DocCx X B C a l rl sts) (he : PE X e (tVar k)) (hb : attributeBase e "states" X.env (eval e X.env) = eval e X.env := by rfl) : DP X B .bas (.Attribute e "states" pos) (selfK k (.ref a) (.list sts)) := ⟨(pe_fld he hb).imp fun σ H Q ⟨O, ρ, d, gd, e1, q⟩ => by
  obtain ⟨rfl, es⟩ := slotK gd e1
  have z := c.at_.same (c.same gd)
  obtain ⟨dx, vr, h1, r1⟩ := z.ob
  obtain ⟨us, h2, r2⟩ := z.ls
  refine ⟨_, es, a, C, dx, _, _, rfl, h1, c.x.cls, c.x.ns, dfs_states _ _, q _ H (Same.refl H) ?_⟩
  show Rep B.O0 H (.list sts) (.ref l)
  rw [c.nO]
  simp only [Rep]
  exact ⟨l, us, rfl, fun z => z, h2, r2⟩⟩
theorem selfK_of {v : V} {d z : D} {ρ : Rho} (h : selfK k v d ρ = some z) : ρ[k]? = some (.raw v) ∧ z = d := by
  unfold selfK at h
  split at h
  · next u e =>
    split at h
    · next hv =>
      cases h
      subst hv
      exact ⟨e, rfl⟩
    · cases h
  · cases h
theorem dp_lastK {p1 p2 p3 p4 : Pos} {j} (c : DocCx X B C a l rl sts) (hl : sts.getLast? = some ls) (he : PE X e (tVar k)) (hb : attributeBase e "states" X.env (eval e X.env) = eval e X.env := by rfl) :
    DP X B m (.Subscript (.Attribute e "states" p1) (.UnaryOp .USub (.Constant (.int 1) j p2) p3) p4) (selfK k (.ref a) ls) := by
  have h0 : DP X B .bas (.Subscript (.Attribute e "states" p1) (.UnaryOp .USub (.Constant (.int 1) j p2) p3) p4) (b2D (selfK k (.ref a) (.list sts)) (b1D (kD (.int 1)) negD) ixD) := dp_ix ix_seq o_ix (dp_statesK c he hb) (dp_un un_neg o_neg dp_int)
  have h1 : DP X B .bas (.Subscript (.Attribute e "states" p1) (.UnaryOp .USub (.Constant (.int 1) j p2) p3) p4) (selfK k (.ref a) ls) := dp_imp h0 fun ρ d e1 => by
    obtain ⟨e2, rfl⟩ := selfK_of e1
    have hne : sts ≠ [] := by rintro rfl; simp at hl
    have hpos : 0 < sts.length := List.length_pos_iff.mpr hne
    rw [List.getLast?_eq_getElem?] at hl
    have e4 : atI sts (-1) = some d := by
      unfold atI ixN
      rw [if_neg (by omega), if_pos (by omega)]
      simp only [Option.bind_some]
      rw [← hl]
      congr 1
      omega
    simp [selfK, e2, e4]
  exact dp_flat h1 fun ρ d e1 => by
    obtain ⟨_, rfl⟩ := selfK_of e1
    exact flatL_mem c.at_.fs (List.mem_of_getLast? hl)
end
/-! ### isinstance(x, the class) -/
structure ClsI (K : PySem.W.Frag) (mg : Str → Option Value) (y : Str) (C : Addr) : Prop where
  g : mg y = some (.ref C)
  ha : PySem.W.findIn K (.ref C) "__class__" = some (some (.builtin "object.__class__"))
  hn : PySem.W.specialIn K (.builtin "object.__class__") "__get__" = some (some (.builtin "getset_descriptor.__get__"))
  ht : PySem.W.takesIn K (.builtin "object.__class__") = some true
  hm : PySem.W.mroIn K C (.type "object") = some true
  kk : PySem.W.kitOne K (.ref C) (.ref C) = some true
  kt : PySem.W.kitOne K (.type "tuple") (.ref C) = some false
  nt : PySem.W.notFirst K C (.type "tuple") = true
  nc : PySem.W.notFirst K C (.ref C) = true
section
variable {X : Cx} {B : Base} {C a l : Addr} {rl : D} {sts ds : List D} {e : Expr} {k : Nat} {y : Str} {v : V} {p p2 pos : Pos}
theorem ty_doc (c : DocCx X B C a l rl sts) (i : ClsI X.K X.mg y C) {H : Hp} (d : DocAt C H a l rl sts) : TyX X.K H (.ref a) (.ref C) := by
  obtain ⟨dx, vr, h1, _⟩ := d.ob
  exact .base (.ins h1 c.x.cls i.ha i.hn i.ht i.hm)
theorem ty_docX {H : Hp} (cx : ClsX X.K C) (i : ClsI X.K X.mg y C) (d : DocAt C H a l rl sts) : TyX X.K H (.ref a) (.ref C) := by
  obtain ⟨dx, vr, h1, _⟩ := d.ob
  exact .base (.ins h1 cx.cls i.ha i.hn i.ht i.hm)
theorem dp_isdoc {m : Md} (c : DocCx X B C a l rl sts) (i : ClsI X.K X.mg y C) (hm : X.mg "isinstance" = none) (he : PE X e (tVar k)) (hg : Gl X "isinstance" := by rfl) (hgT : Gl X y := by rfl) (hd : (y == ("__debug__" : Str)) = false := by decide)
    (hs : starEach (e :: [.Name y p2]) X.env = (false, eval e X.env) :: starEach [.Name y p2] X.env := by rfl) (hpl : (backTo pos (starEach [.Name y p2] X.env)).any (·.1) = false := by rfl) :
    DP X B m (.Call (.Name "isinstance" p) [e, .Name y p2] [] pos) (selfK k (.ref a) (.bool true)) := by
  refine ⟨(pe_callB call_isi hg hm boot_isinstance (pa_cons he (pa_cons (pe_glob hgT i.g (v := .ref C) rfl hd) pa_nil) hs) (by decide) (by decide) hs hpl).imp fun σ H Q ⟨O, ρ, d, gd, e1, q⟩ => ?_⟩
  obtain ⟨rfl, es⟩ := slotK gd e1
  exact ⟨_, es, _, _, _, _, _, rfl, .own C, ty_doc c i (c.at_.same (c.same gd)), i.kk, q _ H (Same.refl H) (rep_bool.mpr rfl)⟩
theorem dp_isntdoc {m : Md} (hT : Rep NO B.H0 (.tuple ds) v) (nR : ∀ b, ¬ B.R b) (i : ClsI X.K X.mg y C) (hm : X.mg "isinstance" = none) (he : PE X e (tVar k)) (hg : Gl X "isinstance" := by rfl) (hgT : Gl X y := by rfl) (hd : (y == ("__debug__" : Str)) = false := by decide)
    (hs : starEach (e :: [.Name y p2]) X.env = (false, eval e X.env) :: starEach [.Name y p2] X.env := by rfl) (hpl : (backTo pos (starEach [.Name y p2] X.env)).any (·.1) = false := by rfl) :
    DP X B m (.Call (.Name "isinstance" p) [e, .Name y p2] [] pos) (selfK k v (.bool false)) := by
  refine ⟨(pe_callB call_isi hg hm boot_isinstance (pa_cons he (pa_cons (pe_glob hgT i.g (v := .ref C) rfl hd) pa_nil) hs) (by decide) (by decide) hs hpl).imp fun σ H Q ⟨O, ρ, d, gd, e1, q⟩ => ?_⟩
  obtain ⟨rfl, es⟩ := slotK gd e1
  have r := hT.same (gd.frame.out nR)
  simp only [Rep] at r
  obtain ⟨b, vs, rfl, hb, _⟩ := r
  exact ⟨_, es, _, _, _, _, _, rfl, .own C, .base (.tup hb), i.kt, q _ H (Same.refl H) (rep_bool.mpr rfl)⟩
end
end DL

set_option autoImplicit false
/-! own ==, bool() of an own __bool__ -/
namespace DL
section
open PySem PySem.Spec PyProof.Rows
theorem type_boolT : isType (.type "bool") = pure true := by first | rfl | kernel_rfl | (unfold isType; rw [isSubtype_type]; kernel_rfl)
theorem bool_own {prog : Program} {w : World} {A : Around} {E : Value → Shared → Prop} {s : Shared} {K : PySem.W.Frag} {x C f : Addr} {ox : Obj} {odd : Option Obj} {Q : Value → Shared → Prop} (X : K.In s.heap) (I : PySem.W.InstAt s.heap x ox C odd) (hs : PySem.W.findIn K (.ref C) "__bool__" = some (some (.ref f))) (hf : PySem.W.isFn K (.ref f) = true)
    (h : wpAny (model prog w) A.in1.in1 (call (.ref f) [.ref x]) (fun r s₁ => ∃ c, r = Value.bool c ∧ Q r s₁) E s) : wpAny (model prog w) A (call (.type "bool") [.ref x]) Q E s := by
  refine callType_codes (T := "bool") (Bi := Builtin.«object.__init__») (Q₁ := fun r s₁ => ∃ c, r = Value.bool c ∧ Q r s₁) PySem.F.called_bool (PySem.F.typeCall_bool_1 _) PySem.F.entry_object_init ?_ ?_
  · refine codeAny_of_tree ?_
    show wpAny _ A.in1.in1 (do checkBuiltinCall "bool.__new__" ⟨[.type "bool", .ref x], []⟩; again (.builtin "bool.__new__" ⟨[.type "bool", .ref x], []⟩)) _ _ s
    refine wpAny_bind (wpAny_of_eq (PySem.F.newCall_bool_1 _) (wpAny_pure ⟨plainId_quiet (by decide +kernel) _, codeAny_builtin PySem.F.entry_bool_new ?_⟩))
    rw [Around.under_plainId (by decide +kernel) _]
    unfold Builtin.«bool.__new__»
    refine wpAny_bind (wpAny_of_eq (a := true) type_boolT ?_)
    refine PySem.W.KFB.if_not rfl ?_
    refine wpAny_bind (wpAny_of_eq (a := true) PySem.F.conv_sub_bool ?_)
    refine PySem.W.KFB.if_not rfl ?_
    refine wpAny_bind (wpAny_of_eq (a := [.ref x]) rfl ?_)
    refine wpAny_bind ?_
    unfold truthy
    refine wpAny_bind (m := callSpecial? (.ref x) (Str.ofString "__bool__")) (PySem.W.special_fn X I hs (beq_iff_eq.mp hf) (wpAny_mono h (fun r s₁ hr => ?_) fun _ _ y => y))
    obtain ⟨c, rfl, hq⟩ := hr
    exact wpAny_pure (wpAny_pure ⟨c, rfl, hq⟩)
  · rintro obj s₁ ⟨c, rfl, hq⟩
    exact ⟨PySem.typeIs_bool _ _, PySem.F.args_object_init_2 _ _, object_init_meets PySem.F.called_bool.init.lookup PySem.F.called_bool.made (by decide) prog w A.in1 _ s₁ ⟨PySem.typeIs_bool _ _, rfl, hq⟩⟩
end
open PySem PySem.Spec
open PyProof.Rows hiding St
open L2
section
variable {X : Cx} {k : Nat} {C g : Addr} {sp : Sp}
theorem call_boolOwn (O : OwnFn X.K C "__bool__" g) (F : FnR X.prog X.w X.K X.mg X.base CX0 k g sp) (hr : Room (k + 2) X.A) : CallR X (.type "bool") (fun xs H Q => ∃ a dx fs, xs = [.ref a] ∧ H a = some (.ins C dx fs) ∧ sp [.ref a] H (fun v H2 => ∃ c : Bool, v = .bl c ∧ Q (.bl c) H2) E0) := by
  intro pins s σ H xs us Q I r ⟨a, dx, fs, ex, ea, q⟩
  subst ex
  obtain ⟨u, rfl, rx⟩ := vals1 r
  obtain rfl : u = Value.ref a := rx
  obtain ⟨mA, Ob, _⟩ := ins_get I.hok ea
  obtain ⟨od, J, _⟩ := Ob.look
  refine bool_own (K := X.K) I.kIn J O.at_ O.fn (wpAny_call (codeAny_mono (F X.A.in1.in1 X.stack s H [.ref a] [.ref a] _ E0 (Room.in1 (k := k) (Room.in1 (k := k + 1) hr)) I.env0.in1.in1 (.cons rfl .nil) q) fun r s' hq => ?_))
  cases r with
  | error er => exact (hq : False).elim
  | ok fl =>
    cases fl with
    | ret u =>
      obtain ⟨v, H', I3, rv, c, ev, q3⟩ := I.after hq
      subst ev
      obtain rfl : u = Value.bool c := rv
      exact ⟨c, rfl, .bl c, H', I3, rfl, q3⟩
    | next => exact False.elim hq
    | brk => exact False.elim hq
    | cont => exact False.elim hq
def rEqDoc (K : PySem.W.Frag) (C : Addr) (sp : Sp) : R2 := fun x y H Q => ∃ a dx fs t, x = V.ref a ∧ H a = some (.ins C dx fs) ∧ TyX K H y t ∧ PySem.W.notFirst K C t = true ∧ sp [x, y] H Q E0
theorem op_eqDoc (O : OwnFn X.K C "__eq__" g) (F : FnR X.prog X.w X.K X.mg X.base CX0 k g sp) (hr : Room k X.A) : OpR X (compareOp .Eq) (rEqDoc X.K C sp) := by
  intro pins s σ H x y v u Q I rx ry h
  obtain ⟨a, dx, fs, t, rfl, ha, ty, hn, q⟩ := h
  cases (show v = Value.ref a from rx)
  obtain ⟨mA, J, _⟩ := ins_get I.hok ha
  obtain ⟨od, J, _⟩ := J.look
  obtain ⟨m, hF⟩ := I.fr
  obtain ⟨P, Z, p, _⟩ := kit_of I ry ty
  show wpAny (model X.prog X.w) X.A (richCompare .Eq _ u) (EP X pins σ Q) X.xe s
  refine PySem.W.cmp_K (op := .Eq) (tb := t) hr.units0 hF I.ok.mod.kin J (Z.ty _ _ I.kIn p) hn O.at_ O.fn ?_
  refine wpAny_mono (wpAny_call (run_fnR (us := [.ref a, u]) (vs := [.ref a, y]) F hr pass0 I (.cons rfl (.cons ry .nil)) q)) (fun w s' z => ?_) fun _ _ x => x
  obtain ⟨z', H', I', rz, qz⟩ := z
  exact SlX.cmpback rz ⟨z', H', I', rz, qz⟩
end
/-! ### the method __eq__ -/
def spEq2 (C : Addr) (Fe : D → D → D → D → Option Bool) : Sp := fun vs H Q _ => ∃ a l rl sts ls y, vs = [V.ref a, y] ∧ DocAt C H a l rl sts ∧ sts.getLast? = some ls ∧
  ((∃ b l2 rl2 sts2 ls2 c, y = V.ref b ∧ DocAt C H b l2 rl2 sts2 ∧ sts2.getLast? = some ls2 ∧ Fe rl ls rl2 ls2 = some c ∧ ∀ H', Same H H' → Q (.bl c) H') ∨
   (∃ ds, Rep NO H (.tuple ds) y ∧ ∀ H', Same H H' → Q (.bl false) H'))
theorem good_raw2 {H : Hp} {y1 y2 : Str} {v1 v2 : V} : Good ⟨H, NO, NO, nolam, Str.empty⟩ NO (L2.start [y1, y2] [v1, v2]) H [.raw v1, .raw v2] := by
  have hst : L2.start [y1, y2] [v1, v2] = [some v1, some v2] := by
    unfold L2.start
    simp
  rw [hst]
  have no : ∀ (i : Nat) s, ([Sl.raw v1, .raw v2] : Rho)[i]? = some s → isOwn s = false ∧ SlOk ⟨H, NO, NO, nolam, Str.empty⟩ NO H s ([some v1, some v2] : L2.St)[i]? := fun i s e => by
    match i with
    | 0 => simp at e; subst e; exact ⟨rfl, rfl⟩
    | 1 => simp at e; subst e; exact ⟨rfl, rfl⟩
    | i + 2 => simp at e
  exact ⟨rfl, FrB.start, fun _ z => z.elim, fun _ h => h, fun _ h => h, fun _ z => z.elim, fun _ h => h, fun i s e => (no i s e).2, fun i j s t b e1 e2 q1 q2 _ _ => by rw [(no i s e1).1] at q1; cases q1⟩
section
variable {P : Program} {w : World} {K : PySem.W.Frag} {mg : Str → Option Value} {base : Heap} {C : Addr}
theorem eqm_mk {nm qual y1 y2 : Str} {st : Stmt} {f : Addr} {fd : FuncData} {k : Nat} {bA : Addr → D → D → Addr → D → D → Rho → Option Out} {bB : V → Rho → Option Out} {Fe : D → D → D → D → Option Bool} (F : L2.Fun K nm qual st f fd) (S : FnScope [y1, y2] [y1, y2] (defScope st)) (cx : ClsX K C)
    (hA : ∀ (B : Base) (a l : Addr) (rl : D) (sts : List D) (ls : D) (b l2 : Addr) (rl2 : D) (sts2 : List D) (ls2 : D) (cdv : Value) (A : Around) (outer : List PySem.Env) (s : Shared) (H : Hp) (E : XK), Room k (A.deeper (envOfC qual (defScope st) s.heap.objs.size f cdv)) →
      DocCx (cxOf CX0 P w K mg base [y1, y2] qual (defScope st) f cdv A outer s H E).nox B C a l rl sts → sts.getLast? = some ls → DocCx (cxOf CX0 P w K mg base [y1, y2] qual (defScope st) f cdv A outer s H E).nox B C b l2 rl2 sts2 → sts2.getLast? = some ls2 →
      DSs (cxOf CX0 P w K mg base [y1, y2] qual (defScope st) f cdv A outer s H E).nox B (defBody st) (bA a rl ls b rl2 ls2))
    (hB : ∀ (B : Base) (v : V) (ds : List D) (cdv : Value) (A : Around) (outer : List PySem.Env) (s : Shared) (H : Hp) (E : XK), Room k (A.deeper (envOfC qual (defScope st) s.heap.objs.size f cdv)) → Rep NO B.H0 (.tuple ds) v → (∀ b, ¬ B.R b) →
      DSs (cxOf CX0 P w K mg base [y1, y2] qual (defScope st) f cdv A outer s H E).nox B (defBody st) (bB v))
    (eA : ∀ a rl ls b rl2 ls2 c, Fe rl ls rl2 ls2 = some c → bA a rl ls b rl2 ls2 [.raw (.ref a), .raw (.ref b)] = some (.rt (.bool c) [.raw (.ref a), .raw (.ref b)]))
    (eB : ∀ (a : Addr) v, bB v [.raw (.ref a), .raw v] = some (.rt (.bool false) [.raw (.ref a), .raw v])) : FnOk P w K mg base CX0 (k + 1) f fd [y1, y2] (spEq2 C Fe) := by
  refine F.ok S (fun vs H Q E h => ?_) (fun cdv A outer s H vs Q E hr h => ?_)
  · obtain ⟨a, l, rl, sts, ls, y, rfl, _⟩ := h
    rfl
  · obtain ⟨a, l, rl, sts, ls, y, rfl, d, hl, h⟩ := h
    rcases h with ⟨b, l2, rl2, sts2, ls2, c, rfl, d2, hl2, e, q⟩ | ⟨ds, r, q⟩
    · exact ⟨_, (hA ⟨H, NO, NO, nolam, Str.empty⟩ a l rl sts ls b l2 rl2 sts2 ls2 cdv A outer s H E hr ⟨cx, d, fun _ z => z, rfl⟩ hl ⟨cx, d2, fun _ z => z, rfl⟩ hl2).ps, NO, _, _, good_raw2, eA _ _ _ _ _ _ _ e, fun v σ' H' O' s3 g3 r3 => by rw [rep_bool.mp r3]; exact q H' (g3.frame.out fun _ z => z)⟩
    · exact ⟨_, (hB ⟨H, NO, NO, nolam, Str.empty⟩ y ds cdv A outer s H E hr r fun _ z => z).ps, NO, _, _, good_raw2, eB _ _, fun v σ' H' O' s3 g3 r3 => by rw [rep_bool.mp r3]; exact q H' (g3.frame.out fun _ z => z)⟩
end
structure EqFn (P : Program) (w : World) (K : PySem.W.Frag) (mg : Str → Option Value) (base : Heap) (k : Nat) (C : Addr) (Fe : D → D → D → D → Option Bool) : Prop where
  ex : ∃ f, FnR P w K mg base CX0 k f (spEq2 C Fe) ∧ OwnFn K C "__eq__" f
def eqDD (i j : Nat) (C : Addr) (Fe : D → D → D → D → Option Bool) : Rho → Option D := fun ρ => match ρ[i]?, ρ[j]? with
  | some (.doc C1 _ _ rl sts), some (.doc C2 _ _ rl2 sts2) => if C1 = C ∧ C2 = C then (sts.getLast?).bind fun ls => (sts2.getLast?).bind fun ls2 => (Fe rl ls rl2 ls2).bind fun c => some (.bool c) else none
  | _, _ => none
def eqDV (i : Nat) (C : Addr) (g : Rho → Option D) : Rho → Option D := fun ρ => match ρ[i]? with
  | some (.doc C1 _ _ _ sts) => if C1 = C ∧ sts ≠ [] then (g ρ).bind fun d => (match d with
    | .tuple ds => if flatL ds = true then some (.bool false) else none
    | _ => none) else none
  | _ => none
def eqDN (i : Nat) (C : Addr) (chk : D → Option D) (st0 : D) (g : Rho → Option D) (Fe : D → D → D → D → Option Bool) : Rho → Option D := fun ρ => match ρ[i]? with
  | some (.doc C1 _ _ rl sts) => if C1 = C then (sts.getLast?).bind fun ls => (g ρ).bind fun d => if flat d = true then (chk d).bind fun rl2 => if flat rl2 = true then (Fe rl ls rl2 st0).bind fun c => some (.bool c) else none else none else none
  | _ => none
section
variable {X : Cx} {B : Base} {md : Md} {i i2 : Nat} {C : Addr} {Fe : D → D → D → D → Option Bool} {k j : Nat} {ea eb : Expr} {g : Rho → Option D} {y : Str} {pos p p2 : Pos}
theorem eqDD_op (cx : ClsX X.K C) (ci : ClsI X.K X.mg y C) : ∀ (σ : L2.St) (H : Hp) (Q : VK), tP B md (eqDD i i2 C Fe) σ H Q → tOp (rEqDoc X.K C (spEq2 C Fe)) (tVar i) (tVar i2) σ H Q := by
  intro σ H Q ⟨O, ρ, d, gd, e1, q⟩
  unfold eqDD at e1
  split at e1
  · next C1 a l rl sts C2 b l2 rl2 sts2 h1 h2 =>
    split at e1
    · next hC =>
      obtain ⟨rfl, rfl⟩ := hC
      obtain ⟨ls, e2, e3⟩ := bind_some e1
      obtain ⟨ls2, e4, e5⟩ := bind_some e3
      obtain ⟨c, e6, e7⟩ := bind_some e5
      cases e7
      obtain ⟨ka, _, _, da⟩ := gd.slots i _ h1
      obtain ⟨kb, _, _, db⟩ := gd.slots i2 _ h2
      obtain ⟨dx, vr, ho, _⟩ := id da.ob
      exact ⟨_, ka, _, kb, a, dx, _, _, rfl, ho, ty_docX cx ci db, ci.nc, a, l, rl, sts, ls, _, rfl, da, e2, .inl ⟨b, l2, rl2, sts2, ls2, c, rfl, db, e4, e6, fun H' s => q _ H' s (rep_bool.mpr rfl)⟩⟩
    · cases e1
  · cases e1
theorem eqDV_op (cx : ClsX X.K C) (ci : ClsI X.K X.mg y C) : ∀ (σ : L2.St) (H : Hp) (Q : VK), tP B md (eqDV i C g) σ H Q → tOp (rEqDoc X.K C (spEq2 C Fe)) (tVar i) (tP B .bas g) σ H Q := by
  intro σ H Q ⟨O, ρ, d, gd, e1, q⟩
  unfold eqDV at e1
  split at e1
  · next C1 a l rl sts h1 =>
    split at e1
    · next hC =>
      obtain ⟨rfl, hne⟩ := hC
      obtain ⟨d1, e2, e3⟩ := bind_some e1
      split at e3
      · next ds =>
        split at e3
        · next hf =>
          cases e3
          obtain ⟨ka, _, _, da⟩ := gd.slots i _ h1
          obtain ⟨dx, vr, ho, _⟩ := id da.ob
          obtain ⟨ls, hls⟩ : ∃ ls, sts.getLast? = some ls := by
            cases h : sts.getLast? with
            | none => exact absurd (List.getLast?_eq_none_iff.mp h) hne
            | some ls => exact ⟨ls, rfl⟩
          refine ⟨_, ka, O, ρ, _, gd, e2, fun v H1 s1 r1 => ?_⟩
          have r2 : Rep NO H1 (.tuple ds) v := rep_flat _ v (by simpa [flat] using hf) r1
          obtain ⟨b, vs, ev, hb2, _⟩ : ∃ b vs, v = .ref b ∧ H1 b = some (.tup vs) ∧ RepL NO H1 ds vs := by simpa only [Rep] using r2
          have ty : TyX X.K H1 v (.type "tuple") := by
            rw [ev]
            exact .base (.tup hb2)
          exact ⟨a, dx, _, _, rfl, s1 _ _ ho, ty, ci.nt, a, l, rl, sts, ls, _, rfl, da.same s1, hls, .inr ⟨ds, r2, fun H' s => q _ H' (s1.trans s) (rep_bool.mpr rfl)⟩⟩
        · cases e3
      · cases e3
    · cases e1
  · cases e1
theorem eqDN_op {chk : Addr → D → Option D} {chk' : D → Option D} {st0 : D} (cx : ClsX X.K C) (ci : ClsI X.K X.mg y C) (hc : ∀ a d rl, chk' d = some rl → chk a d = some rl) : ∀ (σ : L2.St) (H : Hp) (Q : VK), tP B md (eqDN i C chk' st0 g Fe) σ H Q → tOp (rEqDoc X.K C (spEq2 C Fe)) (tVar i) (tMake C (spI C chk st0) [] E0 (tCons (tP B .bas g) tNil)) σ H Q := by
  intro σ H Q ⟨O, ρ, d, gd, e1, q⟩
  unfold eqDN at e1
  split at e1
  · next C1 a l rl sts h1 =>
    split at e1
    · next hC =>
      subst hC
      obtain ⟨ls, e2, e3⟩ := bind_some e1
      obtain ⟨d1, e4, e5⟩ := bind_some e3
      split at e5
      · next f1 =>
        obtain ⟨rl2, e6, e7⟩ := bind_some e5
        split at e7
        · next f2 =>
          obtain ⟨c, e8, e9⟩ := bind_some e7
          cases e9
          obtain ⟨ka, _, _, da⟩ := gd.slots i _ h1
          obtain ⟨dx0, vr, ho, _⟩ := id da.ob
          refine ⟨_, ka, O, ρ, d1, gd, e4, fun v H1 s1 r1 z dx nx nd ne => ?_⟩
          have n1 : upd H1 dx (.own z) z = none := by rw [upd_ne ne.symm]; exact nx
          refine ⟨z, dx, v, d1, rl2, rfl, upd_same, rep_flat d1 v f1 (r1.same ((same_upd nd).trans (same_upd n1))), hc z _ _ e6, f2, fun l2 H2 hl bt dk => ⟨rfl, ?_⟩⟩
          have s2 : Same H H2 := s1.trans (Same.madeB nx nd bt)
          exact ⟨a, dx0, _, _, rfl, s2 _ _ ho, ty_docX cx ci dk, ci.nc, a, l, rl, sts, ls, _, rfl, da.same s2, e2, .inl ⟨z, l2, rl2, [st0], st0, c, rfl, dk, rfl, e8, fun H' s => q _ H' (s2.trans s) (rep_bool.mpr rfl)⟩⟩
        · cases e7
      · cases e5
    · cases e1
  · cases e1
theorem tst_bool {h : Rho → Option D} {ρ : Rho} {c : Bool} (e : (h ρ).bind asBool = some c) : h ρ = some (.bool c) := by
  obtain ⟨d, e1, e2⟩ := bind_some e
  rw [e1, asBool_some e2]
theorem dt_eqDD (G : EqFn X.prog X.w X.K X.mg X.base k C Fe) (cx : ClsX X.K C) (ci : ClsI X.K X.mg y C) (hr : Room j X.A) (hk : k ≤ j) (ha : PE X ea (tVar i)) (hb : PE X eb (tVar i2)) (hm : behindInMarks .Eq eb = false := by rfl) : DPT X B (.Compare ea [.Eq] [eb] pos) (tstD (eqDD i i2 C Fe)) := by
  obtain ⟨f, R, Ow⟩ := G.ex
  exact ⟨(pt_cmpR (op_eqDoc Ow R (hr.mono hk)) ha hb hm).imp fun σ H Q ⟨O, ρ, c, gd, e1, q⟩ => eqDD_op (md := .bas) (B := B) cx ci σ H _ ⟨O, ρ, .bool c, gd, tst_bool e1, fun v H' s r => ⟨c, rep_bool.mp r, q H' s⟩⟩⟩
theorem dt_eqDV (G : EqFn X.prog X.w X.K X.mg X.base k C Fe) (cx : ClsX X.K C) (ci : ClsI X.K X.mg y C) (hr : Room j X.A) (hk : k ≤ j) (ha : PE X ea (tVar i)) (hb : DP X B .bas eb g) (hm : behindInMarks .Eq eb = false := by rfl) : DPT X B (.Compare ea [.Eq] [eb] pos) (tstD (eqDV i C g)) := by
  obtain ⟨f, R, Ow⟩ := G.ex
  exact ⟨(pt_cmpR (op_eqDoc Ow R (hr.mono hk)) ha hb.pe hm).imp fun σ H Q ⟨O, ρ, c, gd, e1, q⟩ => eqDV_op (md := .bas) (B := B) cx ci σ H _ ⟨O, ρ, .bool c, gd, tst_bool e1, fun v H' s r => ⟨c, rep_bool.mp r, q H' s⟩⟩⟩
theorem dt_eqDN {chk : Addr → D → Option D} {chk' : D → Option D} {st0 : D} {kn : Nat} {x : Str} {e : Expr} {pc : Pos} (G : EqFn X.prog X.w X.K X.mg X.base k C Fe) (cx : ClsX X.K C) (ci : ClsI X.K X.mg y C) (hr : Room (j + 1) X.A) (hk : k ≤ j) (ha : PE X ea (tVar i)) (N : IFn X.prog X.w X.K X.mg X.base kn C x chk st0) (hkn : kn ≤ j) (hd : DP X B .bas e g)
    (hc : ∀ a d rl, chk' d = some rl → chk a d = some rl) (hg : Gl X x := by rfl) (hdb : (x == ("__debug__" : Str)) = false := by decide)
    (he : starEach (e :: []) X.env = (false, eval e X.env) :: starEach [] X.env := by rfl) (hpl : (backTo pc (starEach [] X.env)).any (·.1) = false := by rfl)
    (hm : behindInMarks .Eq (.Call (.Name x p) [e] [] pc) = false := by rfl) : DPT X B (.Compare ea [.Eq] [.Call (.Name x p) [e] [] pc] pos) (tstD (eqDN i C chk' st0 g Fe)) := by
  obtain ⟨f, R, Ow⟩ := G.ex
  obtain ⟨fn, fd, ps, Rn, bn, M, hmg⟩ := N.ex
  exact ⟨(pt_cmpR (op_eqDoc Ow R (hr.mono (by omega))) ha (pe_make M Rn (hr.mono (by omega)) hg hmg bn .nil pass0 (pa_cons hd.pe pa_nil he) hdb he hpl) hm).imp fun σ H Q ⟨O, ρ, c, gd, e1, q⟩ => eqDN_op (md := .bas) (B := B) cx ci hc σ H _ ⟨O, ρ, .bool c, gd, tst_bool e1, fun v H' s r => ⟨c, rep_bool.mp r, q H' s⟩⟩⟩
/-- bool(doc) -/
theorem dp_boolD {F : Addr → D → List D → List D → Option D} {e : Expr} (G : MFnR X.prog X.w X.K X.mg X.base k C "__bool__" F) (hr : Room (j + 2) X.A) (hk : k ≤ j) (hm : X.mg "bool" = none) (ho : PE X e (tVar i)) (hg : Gl X "bool" := by rfl)
    (he : starEach (e :: []) X.env = (false, eval e X.env) :: starEach [] X.env := by rfl) (hpl : (backTo pos (starEach [] X.env)).any (·.1) = false := by rfl) (hF : ∀ a rl sts d, F a rl sts [] = some d → ∃ c, d = .bool c) : DP X B md (.Call (.Name "bool" p) [e] [] pos) (docR i C nilA F) := by
  obtain ⟨f, R, Ow⟩ := G.ex
  refine ⟨(pe_callTy (call_boolOwn Ow R (hr.mono (by omega))) hg hm boot_bool (pa_cons ho pa_nil he) (by decide) (by decide) he hpl).imp fun σ H Q ⟨O, ρ, d, gd, e1, q⟩ => ?_⟩
  have e0 := e1
  obtain ⟨a, l, ks, ha, ⟨dx, vr, h1⟩, e5, hf, q2⟩ := docR_read (E := E0) (Q := fun v H2 => ∃ c : Bool, v = .bl c ∧ Q (.bl c) H2) gd e1 (fun v H' s' r' => by
    unfold docR at e0
    split at e0
    · split at e0
      · obtain ⟨ks, e5, e6⟩ := bind_some e0
        unfold nilA at e5
        cases e5
        split at e6
        · obtain ⟨z, e7, e8⟩ := bind_some e6
          obtain ⟨n, rfl⟩ := hF _ _ _ _ e7
          split at e8
          · cases e8
            have : v = .bl n := rep_bool.mp r'
            subst this
            exact ⟨n, rfl, q _ H' s' r'⟩
          · cases e8
        · cases e6
      · cases e0
    · cases e0)
  obtain rfl : ks = [] := by
    unfold nilA at e5
    cases e5
    rfl
  exact ⟨_, ha, a, dx, _, rfl, h1, q2 [] H (Same.refl H) .nil⟩
end
end DL

set_option autoImplicit false
/-! a class method that makes a document; a class constant; a document made in a pair -/
namespace DL
open PySem PySem.Spec
open PyProof.Rows hiding St
open L2
section
variable {X : Cx} {CX : CXT} {k i : Nat} {f C p g : Addr} {mc : Value} {fd : FuncData} {ps : List Str} {sp : Sp} {E : XK} {ds : List Value} {dvs : List V} {fe e o : Expr} {es : List Expr} {t : TA} {ta : TE} {m : Str} {pos apos : Pos} {pl : Sem Bool}
theorem pe_makeV (M : Mk X.K C f) (F : FnOk X.prog X.w X.K X.mg X.base CX k f fd ps sp) (hr : Room (k + 1) X.A) (hb : Binds X.K fd ps ds) (hd : Vals dvs ds) (hx : Passes CX X E) (hf : PE X fe (tVar i)) (ha : PA X (e :: es) t)
    (ht : eval (.Call fe (e :: es) [] pos) X.env = (do callWith pos (← eval fe X.env) [] (backTo pos (starEach (e :: es) X.env)) (backToKw pos (keywordEach [] X.env))) := by rfl)
    (he : starEach (e :: es) X.env = (false, eval e X.env) :: starEach es X.env := by rfl) (hpl : (backTo pos (starEach es X.env)).any (·.1) = false := by rfl) :
    PE X (.Call fe (e :: es) [] pos) (fun σ H Q => σ[i]? = some (some (.ref C)) ∧ tMake C sp dvs E t σ H Q) := by
  refine ⟨fun pins s σ H Q I ⟨h0, h⟩ => ?_⟩
  refine Call_ (thn (hf.run pins s σ H (fun v H1 => v = .ref C ∧ H1 = H) I ⟨.ref C, h0, rfl, rfl⟩) fun u s1 ⟨x, H1, I1, rx, ex, eH⟩ => ?_) ht
  subst ex eH
  obtain rfl : u = Value.ref C := rx
  refine PySem.W.callWith_K (h₀ := X.base) I1.ok.mod.kin M.kp (thn (ha.run pos pins s1 σ H1 _ I1 h) fun us s2 ⟨vs, H2, I2, r, q⟩ => ⟨I2.kIn, ?_⟩) he hpl
  exact run_make M F hr hb hd hx I2 r q
theorem pe_cmeth0 (he : PE X o ta) (r : ClX.CRead X.K C mc) (c : ClX.CMet X.K C mc m p g) (F : FnR X.prog X.w X.K X.mg X.base CX k g sp) (hr : Room k X.A) (hx : Passes CX X E)
    (ht : eval (.Call (.Attribute o m apos) [] [] pos) X.env = (do
      let ov ← eval o X.env
      standAt apos.atName
      let (f, first) ← holding [ov] (getMethod ov m pl)
      callWith pos f first (backTo pos (starEach [] X.env)) (backToKw pos (keywordEach [] X.env))) := by rfl) :
    PE X (.Call (.Attribute o m apos) [] [] pos) (fun σ H Q => ta σ H fun x H1 => x = .ref C ∧ sp [.ref C] H1 Q E) := by
  refine ⟨fun pins s σ H Q I h => ?_⟩
  refine PySem.W.methodCall_KW (pl := pl) (thn (he.run pins s σ H _ I h) fun u s1 ⟨x, H1, I1, rx, ex, q⟩ => ?_) ht
  subst ex
  obtain rfl : u = Value.ref C := rx
  refine ClX.getmethcm_ok I1 r c fun s2 I2 => ?_
  refine PySem.W.callWith_M0 (first := []) ⟨ClX.pin_at I2, I2.kIn⟩ c.fi ?_
  exact ClX.run_cm (us := []) (vs := []) F hr hx I2 .nil q
end
def spCar (C : Addr) (rl st0 : D) : Sp := fun vs H Q _ => vs = [V.ref C] ∧ ∀ a l H2, Same H H2 → H l = none → DocAt C H2 a l rl [st0] → Q (.ref a) H2
section
variable {P : Program} {w : World} {K : PySem.W.Frag} {mg : Str → Option Value} {base : Heap} {C : Addr}
theorem car_mk {nm qual y : Str} {st : Stmt} {f : Addr} {fd : FuncData} {k : Nat} {chk : Addr → D → Option D} {st0 d rl : D} {g : Rho → Option D} (F : L2.Fun K nm qual st f fd) (S : FnScope [y] [y] (defScope st)) (hg : g [.raw (.ref C)] = some d) (fl : flat d = true) (hc : ∀ a, chk a d = some rl) (fr : flat rl = true)
    (hb : ∀ (B : Base) (cdv : Value) (A : Around) (outer : List PySem.Env) (s : Shared) (H : Hp) (E : XK), Room k (A.deeper (envOfC qual (defScope st) s.heap.objs.size f cdv)) →
      PSs (cxOf CX0 P w K mg base [y] qual (defScope st) f cdv A outer s H E).nox (defBody st) (tRet (fun σ H Q => σ[(0 : Nat)]? = some (some (.ref C)) ∧ tMake C (spI C chk st0) [] E0 (tCons (tP B .bas g) tNil) σ H Q))) :
    FnOk P w K mg base CX0 (k + 1) f fd [y] (spCar C rl st0) := by
  refine F.ok S (fun vs H Q E h => ?_) (fun cdv A outer s H vs Q E hr h => ?_)
  · obtain ⟨rfl, _⟩ := h
    rfl
  · obtain ⟨rfl, q⟩ := h
    have gd : Good ⟨H, NO, NO, nolam, Str.empty⟩ NO (L2.start [y] [.ref C]) H (.raw (.ref C) :: startR 0 []) := good_startM (N := []) (tot := 0) RepL.nil rfl (Nat.le_refl 0)
    refine ⟨_, hb ⟨H, NO, NO, nolam, Str.empty⟩ cdv A outer s H E hr, gd.slots 0 _ rfl, NO, _, d, gd, hg, fun v H1 s1 r1 a dx nx nd ne => ?_⟩
    have n1 : upd H1 dx (.own a) a = none := by rw [upd_ne ne.symm]; exact nx
    refine ⟨a, dx, v, d, rl, rfl, upd_same, rep_flat d v fl (r1.same ((same_upd nd).trans (same_upd n1))), hc a, fr, fun l H2 hl bt dk => ⟨rfl, ?_⟩⟩
    have sm : Same H (upd (upd H1 dx (.own a)) a (.ins C dx [])) := s1.trans ((same_upd nd).trans (same_upd n1))
    exact q a l H2 (s1.trans (Same.madeB nx nd bt)) (sm.free hl) dk
end
structure CarFn (P : Program) (w : World) (K : PySem.W.Frag) (mg : Str → Option Value) (base : Heap) (k : Nat) (C : Addr) (m : Str) (rl st0 : D) : Prop where
  ex : ∃ mc p g, ClX.CRead K C mc ∧ ClX.CMet K C mc m p g ∧ FnR P w K mg base CX0 k g (spCar C rl st0)
/-- x = Cls.m() -/
def carW (i : Nat) (C : Addr) (rl st0 : D) : FW := fun ρ Post => ∀ a l, Post (.nx (ρ.set i (.doc C a l rl [st0])))
/-- x, y = Document(e), e2 -/
def newPW (i j : Nat) (C : Addr) (chk : Addr → D → Option D) (st0 : D) (g g2 : Rho → Option D) : FW := fun ρ Post => ∃ d rl d2, g ρ = some d ∧ g2 ρ = some d2 ∧ flat d = true ∧ flat rl = true ∧ (∀ a, chk a d = some rl) ∧ ∀ a l, Post (.nx ((ρ.set i (.doc C a l rl [st0])).set j (.dat d2)))
section
variable {X : Cx} {B : Base} {i i2 : Nat} {C : Addr} {chk : Addr → D → Option D} {st0 rl : D} {g g2 : Rho → Option D} {k j : Nat} {x y z m : Str} {e e2 : Expr} {p p' p3 pos pos2 pt pt2 apos : Pos} {kt k2} {pl : Sem Bool}
theorem dsw_care (G : CarFn X.prog X.w X.K X.mg X.base k C m rl st0) (hm : X.mg x = some (.ref C)) (hr : Room j X.A) (hk : k ≤ j) (hN : X.N.Nodup) (hi : X.N[i]? = some y) (hx : Loc X.env.scope y) (hg : Gl X x := by rfl) (hdb : (x == ("__debug__" : Str)) = false := by decide)
    (ht : eval (.Call (.Attribute (.Name x p) m apos) [] [] pos) X.env = (do
      let ov ← eval (.Name x p) X.env
      standAt apos.atName
      let (f, first) ← holding [ov] (getMethod ov m pl)
      callWith pos f first (backTo pos (starEach [] X.env)) (backToKw pos (keywordEach [] X.env))) := by rfl)
    (hs : swapsWith (.Call (.Attribute (.Name x p) m apos) [] [] pos) (some (.Name y p')) pos2.line X.env = pure false := by rfl) (hf : X.fn y = true ∨ X.env.scope.names.lookup y = some .local := by first | exact .inl rfl | exact .inr rfl | assumption) :
    DSW X B (.Assign [.Name y p'] (.Call (.Attribute (.Name x p) m apos) [] [] pos) pos2) (carW i C rl st0) := by
  obtain ⟨mc, pm, gm, R1, R2, R⟩ := G.ex
  refine ⟨(ps_set hN hi hx (pe_cmeth0 (pe_glob hg hm (v := .ref C) rfl hdb) R1 R2 R (hr.mono hk) pass0 ht) hs hf).imp fun E σ H ⟨O, ρ, Post, gd, hp, q⟩ => ?_⟩
  refine ⟨rfl, rfl, fun a l H2 s2 hl dk => ?_⟩
  obtain ⟨g2, w2⟩ := gd.setDoc (i := i) s2 hl dk
  exact q _ (hp a l) _ _ _ w2 g2
theorem dp_cval {md : Md} {n : Int} {mc u : Value} {f : Str} (hm : X.mg x = some (.ref C)) (r : ClX.CRead X.K C mc) (c : ClX.CVal X.K C mc f (.int n) u) (hg : Gl X x := by rfl) (hdb : (x == ("__debug__" : Str)) = false := by decide)
    (hb : attributeBase (.Name x p) f X.env (eval (.Name x p) X.env) = eval (.Name x p) X.env := by rfl) : DP X B md (.Attribute (.Name x p) f pos) (kD (.int n)) := ⟨(ClX.pe_cval (pe_glob hg hm (v := .ref C) rfl hdb) hb).imp fun σ H Q ⟨O, ρ, d, gd, e1, q⟩ => by
  cases e1
  exact ⟨C, mc, .int n, u, rfl, r, c, q _ H (Same.refl H) (rep_int.mpr rfl)⟩⟩
theorem dsw_newP (G : IFn X.prog X.w X.K X.mg X.base k C x chk st0) (hr : Room (j + 1) X.A) (hk : k ≤ j) (hd : DP X B .bas e g) (h2 : DP X B .str e2 g2) (hc : X.calm = true) (hN : X.N.Nodup) (hi : X.N[i]? = some y) (hj : X.N[i2]? = some z) (hx : Loc X.env.scope y) (hz : Loc X.env.scope z) (hg : Gl X x := by rfl) (hdb : (x == ("__debug__" : Str)) = false := by decide)
    (he : starEach (e :: []) X.env = (false, eval e X.env) :: starEach [] X.env := by rfl) (hpl : (backTo pos (starEach [] X.env)).any (·.1) = false := by rfl)
    (hst1 : starEach (.Call (.Name x p) [e] [] pos :: [e2]) X.env = (false, eval (.Call (.Name x p) [e] [] pos) X.env) :: starEach [e2] X.env := by rfl) (hst2 : starEach (e2 :: []) X.env = (false, eval e2 X.env) :: starEach [] X.env := by rfl)
    (hs : swapsWithSole [.Tuple [.Name y p', .Name z p3] kt pt] (.Tuple [.Call (.Name x p) [e] [] pos, e2] k2 pt2) pos2.line X.env = pure false := by rfl) (hw : swappedStores [.Tuple [.Name y p', .Name z p3] kt pt] (.Tuple [.Call (.Name x p) [e] [] pos, e2] k2 pt2) X.env = pure none := by rfl)
    (h1 : (assignEach [.Tuple [.Name y p', .Name z p3] kt pt] X.env).map (·.2) = [assign (.Tuple [.Name y p', .Name z p3] kt pt) X.env] := by rfl)
    (hn : (assignEach [Expr.Name y p', .Name z p3] X.env).length = 2 := by rfl) (hfi : (assignEach [Expr.Name y p', .Name z p3] X.env).findIdx? (·.1) = none := by rfl)
    (hg1 : (assignEach [Expr.Name y p', .Name z p3] X.env).map (·.2) = assign (.Name y p') X.env :: (assignEach [Expr.Name z p3] X.env).map (·.2) := by rfl) (hg2 : (assignEach [Expr.Name z p3] X.env).map (·.2) = assign (.Name z p3) X.env :: (assignEach [] X.env).map (·.2) := by rfl)
    (hf : X.fn y = true ∨ X.env.scope.names.lookup y = some .local := by first | exact .inl rfl | exact .inr rfl | assumption) (hf2 : X.fn z = true ∨ X.env.scope.names.lookup z = some .local := by first | exact .inl rfl | exact .inr rfl | assumption) :
    DSW X B (.Assign [.Tuple [.Name y p', .Name z p3] kt pt] (.Tuple [.Call (.Name x p) [e] [] pos, e2] k2 pt2) pos2) (newPW i i2 C chk st0 g g2) := by
  obtain ⟨f, fd, ps, R, b, M, hm⟩ := G.ex
  refine ⟨(ps_asg (pe_tup (pa_cons (pe_make M R (hr.mono (by omega)) hg hm b .nil pass0 (pa_cons hd.pe pa_nil he) hdb he hpl) (pa_cons h2.pe pa_nil hst2) hst1)) (pg_tup hc (pgs_cons (pg_name hN hi hx hf) (pgs_cons (pg_name hN hj hz hf2) pgs_nil hg2) hg1) hn hfi) hs hw h1).imp fun E σ H ⟨O, ρ, Post, gd, ⟨d, rl, d2, e1, e3, f1, f2, hck, hp⟩, q⟩ => ?_⟩
  refine ⟨O, ρ, d, gd, e1, fun v H1 s1 r1 a dx nx nd ne => ?_⟩
  have n1 : upd H1 dx (.own a) a = none := by rw [upd_ne ne.symm]; exact nx
  have sm : Same H (upd (upd H1 dx (.own a)) a (.ins C dx [])) := s1.trans ((same_upd nd).trans (same_upd n1))
  refine ⟨a, dx, v, d, rl, rfl, upd_same, rep_flat d v f1 (r1.same ((same_upd nd).trans (same_upd n1))), hck a, f2, fun l H2 hl bt dk => ⟨rfl, ?_⟩⟩
  have s2 : Same H H2 := s1.trans (Same.madeB nx nd bt)
  have hl0 : H l = none := sm.free hl
  obtain ⟨us, hu, _⟩ := id dk.ls
  have gm := gd.more (bs := [l]) s2 (fun b hb => by
    obtain rfl : b = l := by simpa using hb
    exact hl0) (fun b hb => by
    obtain rfl : b = l := by simpa using hb
    exact some_ne hu)
  refine ⟨_, ρ, d2, gm, e3, fun v2 H3 s3 r3 => ⟨(by show 2 ≤ sizeLine; rw [sizeLine_eq]; omega), fun t ht => ?_⟩⟩
  have s4 : Same H3 (upd H3 t (.tup [.ref a, v2])) := same_upd ht
  refine ⟨t, [.ref a, v2], rfl, .of upd_same, rfl, .ref a, [v2], rfl, v2, [], rfl, rfl, ?_⟩
  obtain ⟨g3, w3⟩ := gd.setDoc (i := i) (s2.trans (s3.trans s4)) hl0 (dk.same (s3.trans s4))
  have r4 : Rep (fun b => O b ∨ b = l) (upd H3 t (.tup [.ref a, v2])) d2 v2 := (Rep.less (fun b hb => hb.elim .inl fun z => .inr (by rw [z]; exact List.mem_singleton.mpr rfl)) r3).same s4
  obtain ⟨g4, w4⟩ := g3.set (i := i2) r4
  exact q _ (hp a l) _ _ _ ⟨w3.keep, w3.out, w3.grow, fun b h => w3.w b (w4 b h)⟩ g4
end
end DL

set_option autoImplicit false
/-! a def that gets a bag and a document, and makes lambdas -/
namespace DL
open PySem PySem.Spec
open PyProof.Rows hiding St
open L2
structure ButBB (b l : Addr) (H H' : Hp) : Prop where
  keep : ∀ c o, c ≠ b → c ≠ l → H c = some o → (h : ∀ ps, o ≠ HO.tbl ps := by intro _ z; cases z) → H' c = some o
  tb : Tb H H'
def midH (l : Addr) (H H' : Hp) : Hp := fun c => if c = l then H l else H' c
theorem mid_at {l : Addr} {H H' : Hp} : midH l H H' l = H l := if_pos rfl
theorem mid_ne {l c : Addr} {H H' : Hp} (h : c ≠ l) : midH l H H' c = H' c := if_neg h
section
variable {b l : Addr} {H H' : Hp} {us us' : List V}
theorem ButBB.one (k : ButBB b l H H') (h1 : H l = some (.lst us)) (h2 : H' l = some (.lst us')) : ButB b H (midH l H H') := by
  have code : ∀ c q, H c = some (LamX.CodeO c q) → midH l H H' c = some (LamX.CodeO c q) := fun c q e => by
    by_cases hc : c = l
    · rw [hc, mid_at, ← hc]; exact e
    · rw [mid_ne hc]; exact k.tb.code c q e
  refine ⟨fun c o n e t => ?_, ⟨code, fun c ps e => ?_⟩⟩
  · by_cases hc : c = l
    · rw [hc, mid_at, ← hc]; exact e
    · rw [mid_ne hc]; exact k.keep c o n hc e t
  · by_cases hc : c = l
    · rw [hc, h1] at e; cases e
    · obtain ⟨ps', e', t⟩ := k.tb.tbl c ps e
      refine ⟨ps', by rw [mid_ne hc]; exact e', fun z => (t z).mono fun d q ed => ?_⟩
      by_cases hd : d = l
      · rw [hd, h2] at ed; cases ed
      · rw [mid_ne hd]; exact ed
theorem ButBB.two (k : ButBB b l H H') (h1 : H l = some (.lst us)) (h2 : H' l = some (.lst us')) : ButB l (midH l H H') H' := by
  have code : ∀ c q, midH l H H' c = some (LamX.CodeO c q) → H' c = some (LamX.CodeO c q) := fun c q e => by
    by_cases hc : c = l
    · rw [hc, mid_at, h1] at e; cases e
    · rw [mid_ne hc] at e; exact e
  refine ⟨fun c o n e t => by rw [mid_ne n] at e; exact e, ⟨code, fun c ps e => ?_⟩⟩
  by_cases hc : c = l
  · rw [hc, mid_at, h1] at e; cases e
  · rw [mid_ne hc] at e
    exact ⟨ps, e, fun z => z.mono code⟩
theorem mid_mv {O : Addr → Prop} (ol : O l) (h2 : H' l = some (.lst us')) : Mv O H' O (midH l H H') := ⟨fun c o e q _ => by
  by_cases hc : c = l
  · rw [hc] at e q
    rw [h2] at e
    cases e
    rcases q with q | q
    · exact absurd rfl (q us')
    · exact absurd ol q
  · rw [mid_ne hc]; exact e, fun _ h => .inl h⟩
end
def spBD (Pt C : Addr) (F : List D → Addr → Addr → D → List D → List D → Option (D × List D × List D)) : Sp := fun vs H Q _ => TabAt H Pt ∧ ∃ b a ws, vs = V.ref b :: V.ref a :: ws ∧ ∃ (O : Addr → Prop) (us : List V) (bs : List D) (l : Addr) (rl : D) (sts ds : List D) (r : D) (bs' sts' : List D), Otr O H ∧ O b ∧ O l ∧ b ≠ l ∧ H b = some (.lst us) ∧ RepL O H bs us ∧ DocAt C H a l rl sts ∧ RepL O H ds ws ∧ F bs a l rl sts ds = some (r, bs', sts') ∧
  ∀ v H' us', ButBB b l H H' → H' b = some (.lst us') → RepL O H' bs' us' → DocAt C H' a l rl sts' → Rep O H' r v → Q v H'
open Classical in
noncomputable def endK (k : Nat) (C a l : Addr) (rl : D) (ρ : Rho) : Option (List D) := match ρ[k]? with
  | some (.doc C' a' l' rl' sts') => if C' = C ∧ a' = a ∧ l' = l ∧ rl' = rl then some sts' else none
  | _ => none
noncomputable def runBD (C : Addr) (n tot : Nat) (b : Rho → Option Out) : List D → Addr → Addr → D → List D → List D → Option (D × List D × List D) := fun bs a l rl sts ds => if ds.length = n then (b (.bag bs :: .doc C a l rl sts :: startR (tot - 2) ds)).bind fun r => (match r with
  | .rt d ρ => (bagOf ρ[(0 : Nat)]?).bind fun bs' => (endK 1 C a l rl ρ).bind fun sts' => some (d, bs', sts')
  | .nx _ => none) else none
structure FnBD (P : Program) (w : World) (K : PySem.W.Frag) (mg : Str → Option Value) (base : Heap) (k : Nat) (x : Str) (Pt C : Addr) (F : List D → Addr → Addr → D → List D → List D → Option (D × List D × List D)) : Prop where
  ex : ∃ f fd ps, FnOk P w K mg base CX0 k f fd ps (spBD Pt C F) ∧ mg x = some (.ref f) ∧ PySem.W.keepIn K (.ref f) = true ∧ Binds K fd ps []
theorem good_startBD {C : Addr} {O : Addr → Prop} {H : Hp} {bs sts ds : List D} {us ws : List V} {y z : Str} {N : List Str} {a b l : Addr} {rl : D} {tot : Nat} {L : Nat → Addr → Addr → HO} {q : Str} (t : Otr O H) (ob : O b) (ol : O l) (ne : b ≠ l) (hb : H b = some (.lst us)) (rb : RepL O H bs us) (d : DocAt C H a l rl sts) (r : RepL O H ds ws) (hN : N.length = tot) (hl : ds.length ≤ tot) :
    Good ⟨H, O, fun c => c = b ∨ c = l, L, q⟩ O (L2.start (y :: z :: N) (.ref b :: .ref a :: ws)) H (.bag bs :: .doc C a l rl sts :: startR tot ds) := by
  have hst : L2.start (y :: z :: N) (.ref b :: .ref a :: ws) = some (.ref b) :: some (.ref a) :: L2.start N ws := by
    unfold L2.start
    simp
  have g1 := good_start (N := N) (O := O) t r hN hl
  rw [hst]
  have no : ∀ (i : Nat) s, (Sl.bag bs :: .doc C a l rl sts :: startR tot ds)[i]? = some s → isOwn s = true → (i = 0 ∧ s = .bag bs) ∨ (i = 1 ∧ s = .doc C a l rl sts) := fun i s e q => by
    match i with
    | 0 => simp at e; subst e; exact .inl ⟨rfl, rfl⟩
    | 1 => simp at e; subst e; exact .inr ⟨rfl, rfl⟩
    | i + 2 =>
      rcases start_get r N hN (i := i) (s := s) (by simpa using e) with ⟨d, rfl, _⟩ | rfl
      · cases q
      · cases q
  refine ⟨by simp [g1.len], FrB.start, t, fun c h => by rcases h with h | h <;> (subst h; assumption), fun _ h => h, t, fun _ h => h, fun i s e => ?_, fun i j s u c e1 e2 q1 q2 e3 e4 => ?_⟩
  · match i with
    | 0 =>
      simp at e; subst e
      exact ⟨b, us, rfl, .inl rfl, ob, hb, rb⟩
    | 1 =>
      simp at e; subst e
      exact ⟨rfl, ol, .inl (.inr rfl), d⟩
    | i + 2 =>
      have k := g1.slots i s (by simpa using e)
      rcases start_get r N hN (i := i) (s := s) (by simpa using e) with ⟨d', rfl, _⟩ | rfl
      · obtain ⟨v, e1, rv⟩ := k
        exact ⟨v, by simpa using e1, rv⟩
      · trivial
  · rcases no i s e1 q1 with ⟨rfl, rfl⟩ | ⟨rfl, rfl⟩
    · rcases no j u e2 q2 with ⟨rfl, rfl⟩ | ⟨rfl, rfl⟩
      · rfl
      · have e3' : b = c := by simpa using e3
        have e4' : l = c := e4
        exact absurd (e3'.trans e4'.symm) ne
    · rcases no j u e2 q2 with ⟨rfl, rfl⟩ | ⟨rfl, rfl⟩
      · have e3' : l = c := e3
        have e4' : b = c := by simpa using e4
        exact absurd (e4'.trans e3'.symm) ne
      · rfl
section
variable {P : Program} {w : World} {K : PySem.W.Frag} {mg : Str → Option Value} {base : Heap}
theorem fnbd_mk {x y z : Str} {st : Stmt} {f c Pt C : Addr} {fd : FuncData} {N ps : List Str} {k n tot : Nat} {b : Rho → Option Out} (ls : List LamD) (F : FunC K x st f c fd) (S : FnScope (y :: z :: N) (y :: z :: ps) (defScope st)) (bi : Binds K fd (y :: z :: ps) []) (hm : mg x = some (.ref f)) (hN : N.length + 2 = tot) (hn : ps.length = n) (TB : LamX.TabB base mg c Pt)
    (hb : ∀ (B : Base) (A : Around) (outer : List PySem.Env) (s : Shared) (H : Hp) (E : XK), Room k (A.deeper (envOfC x (defScope st) s.heap.objs.size f (.ref c))) → Mkr (cxOf CX0 P w K mg base (y :: z :: N) x (defScope st) f (.ref c) A outer s H E).nox B ls c Pt → DSs (cxOf CX0 P w K mg base (y :: z :: N) x (defScope st) f (.ref c) A outer s H E).nox B (defBody st) b) :
    FnBD P w K mg base (k + 1) x Pt C (runBD C n tot b) := by
  have hpl : (y :: z :: ps).length ≤ (y :: z :: N).length := by have := congrArg List.length S.pre; rw [List.length_take] at this; omega
  simp only [List.length_cons] at hpl
  have kp := F.kp
  obtain ⟨oc, od, kV, doc, pm, an, ct, osl, rfl, lk, hcd⟩ := F.ex
  refine ⟨f, _, _, fn_of lk hcd S (fun vs H Q E h => ?_) (fun A outer s H vs Q E hr h => ?_), hm, kp, bi⟩
  · obtain ⟨_, b', a, ws, rfl, O, us, bs, l, rl, sts, ds, r, bs', sts', t, ob, ol, ne, h1, rb, d, rw, e, q⟩ := h
    unfold runBD at e
    split at e
    · next hl => rw [List.length_cons, List.length_cons, List.length_cons, List.length_cons, ← rw.length, hl, hn]
    · cases e
  · obtain ⟨tab, b', a, ws, rfl, O, us, bs, l, rl, sts, ds, r, bs', sts', t, ob, ol, ne, h1, rb, d, rw, e, q⟩ := h
    unfold runBD at e
    split at e
    · next hl =>
      obtain ⟨o, e1, e2⟩ := bind_some e
      refine ⟨_, (hb ⟨H, O, fun c => c = b' ∨ c = l, lamF (cxOf CX0 P w K mg base (y :: z :: N) x (defScope st) f (.ref c) A outer s H E).nox ls, (cxOf CX0 P w K mg base (y :: z :: N) x (defScope st) f (.ref c) A outer s H E).nox.env.qual ++ "<lambda>"⟩ A outer s H E hr ⟨TB, rfl, tab, rfl, rfl⟩).ps.nox, O, _, o, good_startBD t ob ol ne h1 rb d rw (by omega) (by omega), e1, ?_⟩
      cases o with
      | nx ρ' => cases e2
      | rt z ρ' =>
        obtain ⟨cs, e3, e4⟩ := bind_some e2
        obtain ⟨st2, e5, e6⟩ := bind_some e4
        cases e6
        refine fun v σ' H' O' s3 g3 r3 => ?_
        unfold bagOf at e3
        split at e3
        · next bs2 e7 =>
          cases e3
          unfold endK at e5
          split at e5
          · next C' a' l' rl' sts2 hi =>
            split at e5
            · next h =>
              obtain ⟨rfl, rfl, rfl, rfl⟩ := h
              cases e5
              obtain ⟨a2, us', k1, k2, k3, k4, k5⟩ := g3.slots 0 _ e7
              have st0 := s3
              have hne : a2 = b' ∨ a2 = l' := k2
              have dk := (g3.slots 1 _ hi).2.2.2
              have hab : a2 = b' := by
                rcases hne with z | z
                · exact z
                · exfalso
                  have := g3.sep 0 1 _ _ a2 e7 hi rfl rfl (by show _ = _; exact k1) (by show l' = a2; exact z.symm)
                  omega
              subst hab
              exact q v H' us' ⟨fun c o n1 n2 eo tt => g3.frame.keep c o eo (fun z => z.elim n1 n2) tt, g3.frame.tb⟩ k4 (k5.less g3.osub) dk r3
            · cases e5
          · cases e5
        · cases e3
    · cases e
end
def bdE (i k : Nat) (C : Addr) (gs : Rho → Option (List D)) (F : List D → Addr → Addr → D → List D → List D → Option (D × List D × List D)) : Rho → Option (D × Rho) := fun ρ => match ρ[k]? with
  | some (.doc C' a l rl sts) => if C' = C then (ρ[i]?).bind fun t => (ownOf t).bind fun bs => (gs ρ).bind fun ds => (F bs a l rl sts ds).bind fun p => some (p.1, (ρ.set i (reOwn t p.2.1)).set k (.doc C' a l rl p.2.2)) else none
  | _ => none
section
variable {X : Cx} {B : Base} {e : Expr} {es : List Expr} {gs : Rho → Option (List D)} {pos p p' p3 : Pos}
theorem de_bd {x y z : Str} {i i2 k j : Nat} {Pt C : Addr} {F : List D → Addr → Addr → D → List D → List D → Option (D × List D × List D)} (hF : FnBD X.prog X.w X.K X.mg X.base k x Pt C F) (hT : TabAt B.H0 Pt) (hr : Room j X.A) (hk : k ≤ j) (hy : PE X (.Name y p') (tVar i)) (hz : PE X (.Name z p3) (tVar i2)) (ha : DPA X B .str es gs) (hg : Gl X x := by rfl) (hdb : (x == ("__debug__" : Str)) = false := by decide)
    (he1 : starEach (.Name y p' :: .Name z p3 :: es) X.env = (false, eval (.Name y p') X.env) :: starEach (.Name z p3 :: es) X.env := by rfl) (he2 : starEach (.Name z p3 :: es) X.env = (false, eval (.Name z p3) X.env) :: starEach es X.env := by rfl) (hpl : (backTo pos (starEach (.Name z p3 :: es) X.env)).any (·.1) = false := by rfl) :
    DE X B (.Call (.Name x p) (.Name y p' :: .Name z p3 :: es) [] pos) (bdE i i2 C gs F) := by
  obtain ⟨fa, fd, ps, G, hm, kp, bi⟩ := hF.ex
  refine ⟨(pe_call G (hr.mono hk) hg hm kp bi .nil pass0 (pa_cons hy (pa_cons hz ha.pa he2) he1) hdb he1 hpl).imp fun σ H Q ⟨O, ρ, d, ρ', gd, e, q⟩ => ?_⟩
  unfold bdE at e
  split at e
  · next C' a l rl sts hi2 =>
    split at e
    · next hC =>
      subst hC
      obtain ⟨t, e1, e2⟩ := bind_some e
      obtain ⟨bs, e3, e4⟩ := bind_some e2
      obtain ⟨ds, e5, e6⟩ := bind_some e4
      obtain ⟨⟨r, bs', sts'⟩, e7, e8⟩ := bind_some e6
      cases e8
      obtain ⟨b, us, h1, ob, h3, rb⟩ := gd.ownAt e1 e3
      obtain ⟨ka, ol, hR, dk⟩ := gd.slots i2 _ hi2
      have ho : isOwn t = true := by
        cases t with
        | own _ => rfl
        | bag _ => rfl
        | _ => cases e3
      have nd : i ≠ i2 := by
        rintro rfl
        rw [e1] at hi2
        cases hi2
        cases e3
      have hbl : b ≠ l := fun z => nd (gd.sep i i2 t _ l e1 hi2 ho rfl (by
        cases t with
        | own _ => show _ = _; rw [← z]; exact h1
        | bag _ => show _ = _; rw [← z]; exact h1
        | _ => cases e3) rfl)
      refine ⟨_, h1, _, ka, O, ρ, ds, gd, e5, fun ws H1 s1 r1 => ?_⟩
      show spBD Pt C' F ((.ref b :: .ref a :: ws) ++ []) H1 Q E0
      rw [List.append_nil]
      have g1 := gd.same s1
      have dk1 := dk.same s1
      refine ⟨g1.tab hT, b, a, ws, rfl, O, us, bs, l, rl, sts, ds, r, bs', sts', g1.otrk, ob, ol, hbl, s1 _ _ h3, rb.same s1, dk1, r1, e7, fun v H2 us' bt hb' rb' dk' rv => ?_⟩
      obtain ⟨u1, hu1, _⟩ := id dk1.ls
      obtain ⟨u2, hu2, _⟩ := id dk'.ls
      have x2 := g1.put e1 e3 h1 (bt.one hu1 hu2) (by rw [mid_ne hbl]; exact hb') (RepL.mv (mid_mv ol hu2) _ _ rb')
      have hi3 : (ρ.set i (reOwn t bs'))[i2]? = some (.doc C' a l rl sts) := by rw [get_set_ne nd]; exact hi2
      have x3 := x2.good.putD hi3 (bt.two hu1 hu2) dk'
      exact q v H2 (((Ext.of gd s1).trans x2).trans x3) rv
    · cases e
  · cases e
end
end DL

/-! the loop over the bags, by weakest preconditions -/
namespace DL
open PySem PySem.Spec
open PyProof.Rows hiding St
open L2
def lawW (i l n : Nat) (a : Addr) (ns : List Int) (Fw : FW) : FW := fun ρ Post => ρ[l]? = some (.raw (.ref a)) ∧ ∃ J : Rho → Prop, J ρ ∧ (∀ c ∈ bagsL 0 (cellsOf ns n), ∀ ρ1, J ρ1 → Fw (ρ1.set i (.own (intsD c))) fun r => ∃ ρ2, r = .nx ρ2 ∧ J ρ2) ∧ ∀ ρ2, J ρ2 → Post (.nx ρ2)
section
variable {X : Cx} {B : Base} {sts : List Stmt} {Fw : FW}
theorem dsw_law {i l n k j : Nat} {a : Addr} {ns : List Int} {x y : Str} {px py pn pc pos p : Pos} {jn} (hb : BagsFn X.prog X.w X.K X.mg X.base k) (hr : Room j X.A) (hk : k ≤ j) (hR : ∀ b, ¬ B.R b) (hO : ∀ b, ¬ B.O0 b) (hS : SqL X.K B.H0 a (ns.map V.int)) (hns : ns.length ≤ 63) (hn : n ≤ 63)
    (hp : PassesOwn (model X.prog X.w) X.A X.env X.xe) (hc : X.calm = true) (hN : X.N.Nodup) (hi : X.N[i]? = some x) (hx : Loc X.env.scope x) (hl : X.N[l]? = some y) (hF : DSsW X B sts Fw)
    (hg : Gl X "_law_bags" := by rfl) (hf : X.fn x = true ∨ X.env.scope.names.lookup x = some .local := by first | exact .inl rfl | exact .inr rfl | assumption)
    (hv : Vis X.env.scope y := by first | exact Or.inl rfl | exact Or.inr (Or.inl rfl) | exact Or.inr (Or.inr rfl)) (hd : (y == ("__debug__" : Str)) = false := by decide) (hcd : (y == ("__classdict__" : Str)) = false := by decide)
    (hs1 : starEach [.Name y py, .Constant (.int (n : Int)) jn pn] X.env = (false, eval (.Name y py) X.env) :: starEach [.Constant (.int (n : Int)) jn pn] X.env := by rfl) (hs2 : starEach [.Constant (.int (n : Int)) jn pn] X.env = (false, eval (.Constant (.int (n : Int)) jn pn) X.env) :: starEach [] X.env := by rfl)
    (hpl : (backTo pc (starEach [.Constant (.int (n : Int)) jn pn] X.env)).any (·.1) = false := by rfl)
    (hfs : ∀ z, foldedSetIterable (.Call (.Name "_law_bags" p) [.Name y py, .Constant (.int (n : Int)) jn pn] [] pc) X.env z = pure z := by intro _; rfl) :
    DSW X B (.For (.Name x px) (.Call (.Name "_law_bags" p) [.Name y py, .Constant (.int (n : Int)) jn pn] [] pc) sts [] pos) (lawW i l n a ns Fw) := by
  obtain ⟨fb, fd, ps, G, hm, kp, bi⟩ := hb.ex
  refine ⟨(ps_for hp hc (pi_list (pe_call G (hr.mono hk) hg hm kp bi .nil pass0 (pa_cons (pv l hl hv hd hcd) (pa_cons pe_int pa_nil hs2) hs1) (by decide) hs1 hpl)) (pg_name hN hi hx hf) hF.ps hfs).imp fun E σ H ⟨O, ρ, Post, gd, ⟨e1, J, J0, Jt, Je⟩, q⟩ => ?_⟩
  have hv1 : σ[l]? = some (some (.ref a)) := gd.slots l _ e1
  have sH0 : Same B.H0 H := gd.frame.out hR
  refine ⟨.ref a, hv1, ?_⟩
  simp only [tCons, tC, tNil, List.append_nil]
  refine ⟨a, ns, n, rfl, sH0.seq hS, hns, hn, fun p bs H1 s1 hp0 hp1 hbl hnd hpb hbs => ?_⟩
  refine ⟨p, rfl, ⟨_, .of hp1⟩, ?_⟩
  have hcl : (bagsL 0 (cellsOf ns n)).length = bs.length := by rw [bagsL_len, hbl]
  have getc : ∀ (j : Nat), j < bs.length → ∃ b c, bs[j]? = some b ∧ (bagsL 0 (cellsOf ns n))[j]? = some c ∧ H b = none ∧ H1 b = some (.lst (c.map V.int)) := fun j hj => by
    refine ⟨bs[j], (bagsL 0 (cellsOf ns n))[j]'(by omega), List.getElem?_eq_getElem hj, List.getElem?_eq_getElem (by omega), ?_⟩
    exact hbs j _ _ (List.getElem?_eq_getElem hj) (List.getElem?_eq_getElem (by omega))
  have fresh : ∀ b ∈ bs, H b = none ∧ ∃ c : List Int, H1 b = some (.lst (c.map V.int)) := fun b hb => by
    obtain ⟨j, hj, ej⟩ := List.mem_iff_getElem.mp hb
    obtain ⟨b', c, e1, _, h1, h2⟩ := getc j hj
    rw [List.getElem?_eq_getElem hj, ej] at e1
    cases e1
    exact ⟨h1, c, h2⟩
  have g1 : Good B (fun b => O b ∨ b ∈ bs) σ H1 ρ := gd.more s1 (fun b hb => (fresh b hb).1) fun b hb => by
    obtain ⟨c, h⟩ := (fresh b hb).2
    exact some_ne h
  have nw : ∀ b, H b = none → ¬ Wof σ ρ b := fun b hb z => by
    obtain ⟨_, vs, h⟩ := gd.wof z
    rw [hb] at h; cases h
  refine ⟨fun i' m σi Hi => m = bs.length - i' ∧ i' ≤ bs.length ∧ ∃ Oi ρi, Good B Oi σi Hi ρi ∧ Stp O σ H ρ Oi σi Hi ρi ∧ (∀ b ∈ bs, Oi b) ∧ Hi p = some (.lst (bs.map V.ref)) ∧ ¬ Oi p ∧
      (∀ (j : Nat) b c, i' ≤ j → bs[j]? = some b → (bagsL 0 (cellsOf ns n))[j]? = some c → Hi b = some (.lst (c.map V.int)) ∧ ¬ Wof σi ρi b) ∧ J ρi,
    ⟨bs.length, by simp, Nat.zero_le _, _, ρ, g1, ⟨.of s1, fun b h => h.elim .inl fun z => .inr (fresh b z).1, fun b h => .inl h, fun b h => .inl h⟩, fun b hb => .inr hb, hp1, fun z => ?_, fun j b c _ e2 e3 => ⟨(hbs j b c e2 e3).2, nw b (hbs j b c e2 e3).1⟩, J0⟩, ?_⟩
  · rcases z with z | z
    · exact gd.otrk p z hp0
    · exact hpb z
  rintro i' m σi Hi ⟨rfl, hle, Oi, ρi, gi, si, hOi, hpi, hnp, hbi, ji⟩
  have npw : ¬ Wof σi ρi p := fun z => hnp (gi.wof z).1
  by_cases hlt : i' < bs.length
  · obtain ⟨b, c, eb, ec, hb0, _⟩ := getc i' hlt
    obtain ⟨hb1, hb2⟩ := hbi i' b c (Nat.le_refl _) eb ec
    have hw := Jt c (List.mem_of_getElem? ec) ρi ji
    have hbm : b ∈ bs := List.mem_of_getElem? eb
    refine .inr ⟨⟨bs.map V.ref, .ref b, .of hpi, by rw [List.getElem?_map, eb]; rfl⟩, fun σ' H' => i' + 1 ≤ bs.length ∧ ∃ O' ρ', Good B O' σ' H' ρ' ∧ Stp O σ H ρ O' σ' H' ρ' ∧ (∀ b ∈ bs, O' b) ∧ H' p = some (.lst (bs.map V.ref)) ∧ ¬ O' p ∧
        (∀ (j : Nat) b c, i' + 1 ≤ j → bs[j]? = some b → (bagsL 0 (cellsOf ns n))[j]? = some c → H' b = some (.lst (c.map V.int)) ∧ ¬ Wof σ' ρ' b) ∧ J ρ',
      fun σ' H' ⟨h1, h2⟩ => ⟨bs.length - (i' + 1), by omega, rfl, h1, h2⟩, fun xv H2 yv => ?_⟩
    obtain ⟨rfl, yv⟩ := yv
    have exv : xv = .ref b := by
      have := yv _ (.of hpi)
      rw [List.getElem?_map, eb] at this
      exact (Option.some.inj this).symm
    subst exv
    have hB0 : B.H0 b = none := by
      cases e : B.H0 b with
      | none => rfl
      | some o =>
        exact absurd hb0 (sH0.ne (some_ne e))
    obtain ⟨g2, w2⟩ := gi.adopt (i := i) (hOi b hbm) (hO b) hB0 hb1 (repL_ints c) hb2
    refine ⟨Oi, _, _, g2, hw, fun r ⟨ρ2, er, j2⟩ => ?_⟩
    subst er
    have st2 : Stp O σ H ρ Oi (σi.set i (some (.ref b))) H2 (ρi.set i (.own (intsD c))) := ⟨si.keep, si.out, si.grow, fun c' h => (w2 c' h).elim (fun z => si.w c' z) fun z => .inr (by rw [z]; exact hb0)⟩
    intro σ' H' O' s3 g3
    have hpb' : p ≠ b := fun z => hpb (by rw [z]; exact hbm)
    have npw2 : ¬ Wof (σi.set i (some (.ref b))) (ρi.set i (.own (intsD c))) p := fun z => (w2 p z).elim npw hpb'
    have pk := s3.keep.keep p _ hpi npw2
    refine ⟨hlt, O', ρ2, g3, st2.trans gd s3, fun b' hb' => ?_, pk, fun z => ?_, fun j b' c' hj eb' ec2 => ?_, j2⟩
    · exact s3.grow b' (hOi b' hb')
    · rcases s3.out p z with z | z
      · exact hnp z
      · rw [hpi] at z; cases z
    · have hne : b' ≠ b := fun z => by
        subst z
        have h1 := (List.getElem?_eq_some_iff.mp eb').1
        have h2 := (List.getElem?_eq_some_iff.mp eb').2
        have h3 := (List.getElem?_eq_some_iff.mp eb).2
        have : i' = j := (List.getElem_inj hnd).mp (h3.trans h2.symm)
        omega
      obtain ⟨k1, k2⟩ := hbi j b' c' (by omega) eb' ec2
      have nw2 : ¬ Wof (σi.set i (some (.ref b))) (ρi.set i (.own (intsD c))) b' := fun z => (w2 b' z).elim k2 hne
      refine ⟨s3.keep.keep b' _ k1 nw2, fun z => ?_⟩
      rcases s3.w b' z with z | z
      · exact nw2 z
      · rw [k1] at z; cases z
  · have en : i' = bs.length := by omega
    subst en
    exact .inl ⟨⟨_, .of hpi, by simp⟩, q _ (Je ρi ji) σi Hi Oi si gi⟩
end
end DL

set_option autoImplicit false
namespace DL
open PySem PySem.Spec
open PyProof.Rows hiding St
open L2
section
variable {X : Cx} {B : Base} {W : WX} {C a l : Addr} {rl : D} {sts : List D} {st : Stmt} {ss : List Stmt}
theorem DocCx.nox (c : DocCx X B C a l rl sts) : DocCx X.nox B C a l rl sts := ⟨c.x, c.at_, c.nR, c.nO⟩
theorem _root_.L2.PSs.nox' {t : TS} (h : PSs X.nox ss t) : PSs X ss t := h.nox
theorem dsm_allN {Fo : Rho → Option Out} (h : DSs X.nox B ss Fo) : DSsM X B W ss (okM Fo) := ⟨h.ps.nox.imp fun E σ H ⟨O, ρ, r, gd, e, q⟩ => by
  obtain ⟨o, e1, e2⟩ := bind_some e
  cases e2
  exact ⟨O, ρ, o, gd, e1, q⟩⟩
theorem dsm_ofN {Fo : Rho → Option Out} (h : DS X.nox B st Fo) : DSM X B W st (okM Fo) := ⟨h.ps.nox.imp fun E σ H ⟨O, ρ, r, gd, e, q⟩ => by
  obtain ⟨o, e1, e2⟩ := bind_some e
  cases e2
  exact ⟨O, ρ, o, gd, e1, q⟩⟩
end
section
variable {X : Cx} {k : Nat} {C g : Addr} {sp : Sp} {e : Expr} {ta : TE} {pos : Pos}
theorem pe_notOwn (he : PE X e ta) (O : OwnFn X.K C "__bool__" g) (F : FnR X.prog X.w X.K X.mg X.base CX0 k g sp) (hr : Room k X.A) : PE X (.UnaryOp .Not e pos) (fun σ H Q => tOwnB C sp ta σ H (fun c H' => Q (.bl (!c)) H')) := by
  refine ⟨fun pins s σ H Q I hw => ?_⟩
  refine UnaryOp_ (thn (he.run pins s σ H _ I hw) fun v s1 ⟨x, H1, I1, r1, a, dx, fs, ex, ea, q⟩ => ?_)
  subst ex
  obtain rfl : v = Value.ref a := r1
  obtain ⟨mA, Ob, _⟩ := ins_get I1.hok ea
  obtain ⟨od, J, _⟩ := Ob.look
  refine not_of ?_
  unfold truthy
  refine wpAny_bind (m := callSpecial? (.ref a) (Str.ofString "__bool__")) (PySem.W.special_fn I1.kIn J O.at_ (beq_iff_eq.mp O.fn) (thn (wpAny_call (run_fnR (us := [.ref a]) (vs := [.ref a]) F hr pass0 I1 (.cons rfl .nil) q)) fun r s2 ⟨z, H2, I2, rz, c, ez, q2⟩ => ?_))
  subst ez
  obtain rfl : r = Value.bool c := rz
  exact wpAny_pure ⟨.bl (!c), H2, I2, rfl, q2⟩
variable {B : Base} {md : Md} {i j : Nat} {F : Addr → D → List D → List D → Option D}
theorem dp_notOwn (G : MFnR X.prog X.w X.K X.mg X.base k C "__bool__" F) (hr : Room j X.A) (hk : k ≤ j) (ho : PE X e (tVar i)) : DP X B md (.UnaryOp .Not e pos) (fun ρ => ((docR i C nilA F ρ).bind asBool).bind fun c => some (.bool (!c))) := by
  obtain ⟨f, R, O⟩ := G.ex
  refine ⟨(pe_notOwn ho O R (hr.mono hk)).imp fun σ H Q ⟨O, ρ, d, gd, e1, q⟩ => ?_⟩
  obtain ⟨c, e2, e3⟩ := bind_some e1
  cases e3
  obtain ⟨d, e2, e3⟩ := bind_some e2
  obtain ⟨a, l, ks, ha, ⟨dx, vr, h1⟩, e5, hf, q2⟩ := docR_read (E := E0) (O' := NO) (Q := fun v H2 => ∃ c, v = .bl c ∧ Q (.bl (!c)) H2) gd e2 (fun v H' s' r' => by
    cases d with
    | bool c' =>
      cases e3
      exact ⟨c, rep_bool.mp r', q _ H' s' (rep_bool.mpr rfl)⟩
    | _ => cases e3)
  obtain rfl : ks = [] := by
    unfold nilA at e5
    cases e5
    rfl
  exact ⟨_, ha, a, dx, _, rfl, h1, q2 [] H (Same.refl H) .nil⟩
end
theorem mfnr_less {P : Program} {w : World} {K : PySem.W.Frag} {mg : Str → Option Value} {base : Heap} {k : Nat} {C : Addr} {m : Str} {F F' : Addr → D → List D → List D → Option D} (h : ∀ a rl sts ds d, F' a rl sts ds = some d → F a rl sts ds = some d) (G : MFnR P w K mg base k C m F) : MFnR P w K mg base k C m F' := by
  obtain ⟨f, R, O⟩ := G.ex
  exact ⟨f, R.imp fun vs H Q E ⟨a, l, rl, sts, ds, ws, r, e1, d, rw, fl, e, q⟩ => ⟨a, l, rl, sts, ds, ws, r, e1, d, rw, fl, h _ _ _ _ _ e, q⟩, O⟩
def sIf : Stmt → List Stmt
  | .If _ b _ _ => b
  | _ => []
def sEls : Stmt → List Stmt
  | .If _ _ b _ => b
  | _ => []
def eT : Expr → List Expr
  | .Tuple es _ _ => es
  | .BoolOp _ es _ => es
  | _ => []
def eZ (e : Expr) (i : Nat) : Expr := (eT e).getD i (.Name Str.empty ⟨0, 0, 0, 0⟩)
end DL

namespace My
open PySem PySem.Spec
open PyProof.Rows hiding St
open L2 DL
noncomputable section
def topS (i : Nat) : Stmt := PySem.Challenge.pw_autosaves_k21_documents_step_by_step.main.body.getD i (.Pass ⟨0, 0, 0, 0⟩)
abbrev st_in_range : Stmt := topS 14
theorem sc_in_range : FnScope ["value", "low", "high"] ["value", "low", "high"] (defScope st_in_range) := ⟨rfl, rfl, rfl, by decide +kernel, rfl, by decide +kernel, by decide +kernel⟩
abbrev st_is_rule : Stmt := topS 15
theorem sc_is_rule : FnScope ["value"] ["value"] (defScope st_is_rule) := ⟨rfl, rfl, rfl, by decide +kernel, rfl, by decide +kernel, by decide +kernel⟩
abbrev st_check_rule : Stmt := topS 16
theorem sc_check_rule : FnScope ["value"] ["value"] (defScope st_check_rule) := ⟨rfl, rfl, rfl, by decide +kernel, rfl, by decide +kernel, by decide +kernel⟩
abbrev st_played : Stmt := topS 17
theorem sc_played : FnScope ["rule", "log", "count", "idle", "unsaved", "rows", "done", "index", "time"] ["rule", "log"] (defScope st_played) := ⟨rfl, rfl, rfl, by decide +kernel, rfl, by decide +kernel, by decide +kernel⟩
abbrev st_unsaved_at : Stmt := topS 18
theorem sc_unsaved_at : FnScope ["rule", "log", "time", "part", "moment", "rows"] ["rule", "log", "time"] (defScope st_unsaved_at) := ⟨rfl, rfl, rfl, by decide +kernel, rfl, by decide +kernel, by decide +kernel⟩
abbrev st_law_well : Stmt := topS 22
theorem sc_law_well : FnScope ["_law_cell", "_law_turn"] ["_law_cell", "_law_turn"] (defScope st_law_well) := ⟨rfl, rfl, rfl, by decide +kernel, rfl, by decide +kernel, by decide +kernel⟩
abbrev st_law_take : Stmt := topS 23
theorem sc_law_take : FnScope ["_law_bag", "_law_many", "_law_found", "_law_p", "_law_n"] ["_law_bag", "_law_many"] (defScope st_law_take) := ⟨rfl, rfl, rfl, by decide +kernel, rfl, by decide +kernel, by decide +kernel⟩
abbrev st_law_bags : Stmt := topS 24
theorem sc_law_bags : FnScope ["_law_script", "_law_most", "_law_k", "_law_cell"] ["_law_script", "_law_most"] (defScope st_law_bags) := ⟨rfl, rfl, rfl, by decide +kernel, rfl, by decide +kernel, by decide +kernel⟩
abbrev st_law_same : Stmt := topS 25
theorem sc_law_same : FnScope ["_law_a", "_law_b", "_law_x", "_law_y"] ["_law_a", "_law_b"] (defScope st_law_same) := ⟨rfl, rfl, rfl, by decide +kernel, rfl, by decide +kernel, by decide +kernel⟩
abbrev st_law_in : Stmt := topS 26
theorem sc_law_in : FnScope ["_law_x", "_law_low", "_law_high"] ["_law_x", "_law_low", "_law_high"] (defScope st_law_in) := ⟨rfl, rfl, rfl, by decide +kernel, rfl, by decide +kernel, by decide +kernel⟩
abbrev st_law_error : Stmt := topS 27
theorem sc_law_error : FnScope ["_law_e", "_law_some", "_law_words", "_law_word", "_law_good"] ["_law_e"] (defScope st_law_error) := ⟨rfl, rfl, rfl, by decide +kernel, rfl, by decide +kernel, by decide +kernel⟩
abbrev st_law_outcome : Stmt := topS 28
theorem sc_law_outcome : FnScope ["_law_call", "_law_found", "_law_e"] ["_law_call"] (defScope st_law_outcome) := ⟨rfl, rfl, rfl, by decide +kernel, rfl, by decide +kernel, by decide +kernel⟩
abbrev st_law_play : Stmt := topS 29
theorem sc_law_play : FnScope ["_law_rule", "_law_log", "_law_count", "_law_idle", "_law_waiting", "_law_rows", "_law_done", "_law_index"] ["_law_rule", "_law_log"] (defScope st_law_play) := ⟨rfl, rfl, rfl, by decide +kernel, rfl, by decide +kernel, by decide +kernel⟩
abbrev st_law_open : Stmt := topS 30
theorem sc_law_open : FnScope ["_law_rule", "_law_log", "_law_time", "_law_part", "_law_moment", "_law_waiting"] ["_law_rule", "_law_log", "_law_time"] (defScope st_law_open) := ⟨rfl, rfl, rfl, by decide +kernel, rfl, by decide +kernel, by decide +kernel⟩
abbrev st_law_edit : Stmt := topS 31
theorem sc_law_edit : FnScope ["_law_run", "_law_times"] ["_law_run", "_law_times"] (defScope st_law_edit) := ⟨rfl, rfl, rfl, by decide +kernel, rfl, by decide +kernel, by decide +kernel⟩
abbrev st_law_right : Stmt := topS 32
theorem sc_law_right : FnScope ["_law_run", "_law_rule", "_law_state", "_law_edits", "_law_time", "_law_done", "_law_moment", "_law_reason", "_law_many", "_law_inside"] ["_law_run", "_law_rule", "_law_state"] (defScope st_law_right) := ⟨rfl, rfl, rfl, by decide +kernel, rfl, by decide +kernel, by decide +kernel⟩
abbrev st_law_step : Stmt := topS 33
theorem sc_law_step : FnScope ["_law_bag", "_law_run", "_law_rule", "_law_state", "_law_way", "_law_edits", "_law_time", "_law_turn", "_law_told", "_law_later", "_law_found", "_law_here", "_law_odd", "_law_good"] ["_law_bag", "_law_run", "_law_rule", "_law_state"] (defScope st_law_step) := ⟨rfl, rfl, rfl, by decide +kernel, rfl, by decide +kernel, by decide +kernel⟩
abbrev st_law : Stmt := topS 34
theorem sc_law : FnScope ["_law_script", "_law_bag", "_law_rule", "_law_turn", "_law_twin", "_law_moment", "_law_run", "_law_states", "_law_due", "_law_good", "_law_later", "_law_safe"] ["_law_script"] (defScope st_law) := ⟨rfl, rfl, rfl, by decide +kernel, rfl, by decide +kernel, by decide +kernel⟩
abbrev st_m_init : Stmt := inClass (topS 20) 1
theorem sc_m_init : FnScope ["self", "rule"] ["self", "rule"] (defScope st_m_init) := ⟨rfl, rfl, rfl, by decide +kernel, rfl, by decide +kernel, by decide +kernel⟩
abbrev st_m_careful : Stmt := inClass (topS 20) 2
theorem sc_m_careful : FnScope ["cls"] ["cls"] (defScope st_m_careful) := ⟨rfl, rfl, rfl, by decide +kernel, rfl, by decide +kernel, by decide +kernel⟩
abbrev st_m_keep : Stmt := inClass (topS 20) 3
theorem sc_m_keep : FnScope ["self", "edits", "time", "done", "moment", "reason"] ["self", "edits", "time"] (defScope st_m_keep) := ⟨rfl, rfl, rfl, by decide +kernel, rfl, by decide +kernel, by decide +kernel⟩
abbrev st_m_edit : Stmt := inClass (topS 20) 4
theorem sc_m_edit : FnScope ["self", "times", "edits", "time", "moment"] ["self", "times"] (defScope st_m_edit) := ⟨rfl, rfl, rfl, by decide +kernel, rfl, by decide +kernel, by decide +kernel⟩
abbrev st_m_call : Stmt := inClass (topS 20) 5
theorem sc_m_call : FnScope ["self", "time", "edits", "present"] ["self", "time"] (defScope st_m_call) := ⟨rfl, rfl, rfl, by decide +kernel, rfl, by decide +kernel, by decide +kernel⟩
abbrev st_m_undo : Stmt := inClass (topS 20) 6
theorem sc_m_undo : FnScope ["self"] ["self"] (defScope st_m_undo) := ⟨rfl, rfl, rfl, by decide +kernel, rfl, by decide +kernel, by decide +kernel⟩
abbrev st_m_edits : Stmt := inClass (topS 20) 7
theorem sc_m_edits : FnScope ["self"] ["self"] (defScope st_m_edits) := ⟨rfl, rfl, rfl, by decide +kernel, rfl, by decide +kernel, by decide +kernel⟩
abbrev st_m_time : Stmt := inClass (topS 20) 8
theorem sc_m_time : FnScope ["self"] ["self"] (defScope st_m_time) := ⟨rfl, rfl, rfl, by decide +kernel, rfl, by decide +kernel, by decide +kernel⟩
abbrev st_m_unsaved : Stmt := inClass (topS 20) 9
theorem sc_m_unsaved : FnScope ["self"] ["self"] (defScope st_m_unsaved) := ⟨rfl, rfl, rfl, by decide +kernel, rfl, by decide +kernel, by decide +kernel⟩
abbrev st_m_saved : Stmt := inClass (topS 20) 10
theorem sc_m_saved : FnScope ["self"] ["self"] (defScope st_m_saved) := ⟨rfl, rfl, rfl, by decide +kernel, rfl, by decide +kernel, by decide +kernel⟩
abbrev st_m_contains : Stmt := inClass (topS 20) 11
theorem sc_m_contains : FnScope ["self", "time"] ["self", "time"] (defScope st_m_contains) := ⟨rfl, rfl, rfl, by decide +kernel, rfl, by decide +kernel, by decide +kernel⟩
abbrev st_m_bool : Stmt := inClass (topS 20) 12
theorem sc_m_bool : FnScope ["self"] ["self"] (defScope st_m_bool) := ⟨rfl, rfl, rfl, by decide +kernel, rfl, by decide +kernel, by decide +kernel⟩
abbrev st_m_len : Stmt := inClass (topS 20) 13
theorem sc_m_len : FnScope ["self"] ["self"] (defScope st_m_len) := ⟨rfl, rfl, rfl, by decide +kernel, rfl, by decide +kernel, by decide +kernel⟩
abbrev st_m_eq : Stmt := inClass (topS 20) 14
theorem sc_m_eq : FnScope ["self", "other"] ["self", "other"] (defScope st_m_eq) := ⟨rfl, rfl, rfl, by decide +kernel, rfl, by decide +kernel, by decide +kernel⟩
structure DocT (K : PySem.W.Frag) (mg : Str → Option Value) (C : Addr) : Prop where
  cx : ClsX K C
  mg_ : mg "Document" = some (.ref C)
  mks : PySem.W.makesIn K C = true
  kp : PySem.W.keepIn K (.ref C) = true
  ci : ClsI K mg "Document" C
  rd : ClX.CRead K C (.type "type")
  mo : ∃ u, ClX.CVal K C (.type "type") "MOST" (.int 60) u
  cm : ∃ p f fd, ClX.CMet K C (.type "type") "careful" p f ∧ L2.Fun K "careful" "Document.careful" st_m_careful f fd ∧ Binds K fd ["cls"] []
  m_init : MthAt K C "__init__" "Document.__init__" st_m_init ["self", "rule"]
  m_keep : MthAt K C "keep" "Document.keep" st_m_keep ["self", "edits", "time"]
  m_edit : MStarAt K C "edit" "Document.edit" st_m_edit ["self"] "times"
  m_call : MthAt K C "__call__" "Document.__call__" st_m_call ["self", "time"]
  m_undo : MthAt K C "undo" "Document.undo" st_m_undo ["self"]
  m_edits : PrpAt K C "edits" "Document.edits" st_m_edits
  m_time : PrpAt K C "time" "Document.time" st_m_time
  m_unsaved : PrpAt K C "unsaved" "Document.unsaved" st_m_unsaved
  m_saved : PrpAt K C "saved" "Document.saved" st_m_saved
  m_contains : MthAt K C "__contains__" "Document.__contains__" st_m_contains ["self", "time"]
  m_bool : MthAt K C "__bool__" "Document.__bool__" st_m_bool ["self"]
  m_len : MthAt K C "__len__" "Document.__len__" st_m_len ["self"]
  m_eq : MthAt K C "__eq__" "Document.__eq__" st_m_eq ["self", "other"]
structure Adr where
  S : Addr
  D : Addr
  InvalidRule : Addr
  InvalidLog : Addr
  InvalidTime : Addr
  InvalidNumber : Addr
  InvalidIndex : Addr
  InvalidSeen : Addr
  NothingToUndo : Addr
  TooMany : Addr
  c_law_step : Addr
  P_law_step : Addr
  c_law : Addr
  P_law : Addr
structure Txt (K : PySem.W.Frag) (mg : Str → Option Value) (ad : Adr) : Prop where
  d_in_range : DefAt K mg "in_range" st_in_range ["value", "low", "high"]
  d_is_rule : DefAt K mg "is_rule" st_is_rule ["value"]
  d_check_rule : DefAt K mg "check_rule" st_check_rule ["value"]
  d_played : DefAt K mg "played" st_played ["rule", "log"]
  d_unsaved_at : DefAt K mg "unsaved_at" st_unsaved_at ["rule", "log", "time"]
  d_law_well : DefAt K mg "_law_well" st_law_well ["_law_cell", "_law_turn"]
  d_law_take : DefAt K mg "_law_take" st_law_take ["_law_bag", "_law_many"]
  d_law_bags : DefAt K mg "_law_bags" st_law_bags ["_law_script", "_law_most"]
  d_law_same : DefAt K mg "_law_same" st_law_same ["_law_a", "_law_b"]
  d_law_in : DefAt K mg "_law_in" st_law_in ["_law_x", "_law_low", "_law_high"]
  d_law_error : DefAt K mg "_law_error" st_law_error ["_law_e"]
  d_law_outcome : DefAt K mg "_law_outcome" st_law_outcome ["_law_call"]
  d_law_play : DefAt K mg "_law_play" st_law_play ["_law_rule", "_law_log"]
  d_law_open : DefAt K mg "_law_open" st_law_open ["_law_rule", "_law_log", "_law_time"]
  d_law_edit : DefAt K mg "_law_edit" st_law_edit ["_law_run", "_law_times"]
  d_law_right : DefAt K mg "_law_right" st_law_right ["_law_run", "_law_rule", "_law_state"]
  d_law_step : ∃ f fd, FunC K "_law_step" st_law_step f ad.c_law_step fd ∧ Binds K fd ["_law_bag", "_law_run", "_law_rule", "_law_state"] [] ∧ mg "_law_step" = some (.ref f)
  z_all : mg "all" = none
  z_bool : mg "bool" = none
  z_enumerate : mg "enumerate" = none
  z_int : mg "int" = none
  z_isinstance : mg "isinstance" = none
  z_len : mg "len" = none
  z_list : mg "list" = none
  z_max : mg "max" = none
  z_range : mg "range" = none
  z_str : mg "str" = none
  z_tuple : mg "tuple" = none
  z_zip : mg "zip" = none
  q_S : mg "SaveError" = some (.ref ad.S)
  q_InvalidRule : mg "InvalidRule" = some (.ref ad.InvalidRule)
  q_InvalidLog : mg "InvalidLog" = some (.ref ad.InvalidLog)
  q_InvalidTime : mg "InvalidTime" = some (.ref ad.InvalidTime)
  q_InvalidNumber : mg "InvalidNumber" = some (.ref ad.InvalidNumber)
  q_InvalidIndex : mg "InvalidIndex" = some (.ref ad.InvalidIndex)
  q_InvalidSeen : mg "InvalidSeen" = some (.ref ad.InvalidSeen)
  q_NothingToUndo : mg "NothingToUndo" = some (.ref ad.NothingToUndo)
  q_TooMany : mg "TooMany" = some (.ref ad.TooMany)
  e_InvalidRule : ErrC K mg "InvalidRule" ad.InvalidRule
  x_InvalidRule : ExcC K ad.InvalidRule
  m_InvalidRule : PySem.W.exmOne K (.ref ad.InvalidRule) (.ref ad.S) = some true
  k_InvalidRule_InvalidRule : PySem.W.kitOne K (.ref ad.InvalidRule) (.ref ad.InvalidRule) = some true
  k_InvalidRule_InvalidLog : PySem.W.kitOne K (.ref ad.InvalidRule) (.ref ad.InvalidLog) = some false
  k_InvalidRule_InvalidTime : PySem.W.kitOne K (.ref ad.InvalidRule) (.ref ad.InvalidTime) = some false
  k_InvalidRule_InvalidNumber : PySem.W.kitOne K (.ref ad.InvalidRule) (.ref ad.InvalidNumber) = some false
  k_InvalidRule_InvalidIndex : PySem.W.kitOne K (.ref ad.InvalidRule) (.ref ad.InvalidIndex) = some false
  k_InvalidRule_InvalidSeen : PySem.W.kitOne K (.ref ad.InvalidRule) (.ref ad.InvalidSeen) = some false
  k_InvalidRule_NothingToUndo : PySem.W.kitOne K (.ref ad.InvalidRule) (.ref ad.NothingToUndo) = some false
  k_InvalidRule_TooMany : PySem.W.kitOne K (.ref ad.InvalidRule) (.ref ad.TooMany) = some false
  e_InvalidTime : ErrC K mg "InvalidTime" ad.InvalidTime
  x_InvalidTime : ExcC K ad.InvalidTime
  m_InvalidTime : PySem.W.exmOne K (.ref ad.InvalidTime) (.ref ad.S) = some true
  k_InvalidTime_InvalidRule : PySem.W.kitOne K (.ref ad.InvalidTime) (.ref ad.InvalidRule) = some false
  k_InvalidTime_InvalidLog : PySem.W.kitOne K (.ref ad.InvalidTime) (.ref ad.InvalidLog) = some false
  k_InvalidTime_InvalidTime : PySem.W.kitOne K (.ref ad.InvalidTime) (.ref ad.InvalidTime) = some true
  k_InvalidTime_InvalidNumber : PySem.W.kitOne K (.ref ad.InvalidTime) (.ref ad.InvalidNumber) = some false
  k_InvalidTime_InvalidIndex : PySem.W.kitOne K (.ref ad.InvalidTime) (.ref ad.InvalidIndex) = some false
  k_InvalidTime_InvalidSeen : PySem.W.kitOne K (.ref ad.InvalidTime) (.ref ad.InvalidSeen) = some false
  k_InvalidTime_NothingToUndo : PySem.W.kitOne K (.ref ad.InvalidTime) (.ref ad.NothingToUndo) = some false
  k_InvalidTime_TooMany : PySem.W.kitOne K (.ref ad.InvalidTime) (.ref ad.TooMany) = some false
  e_NothingToUndo : ErrC K mg "NothingToUndo" ad.NothingToUndo
  x_NothingToUndo : ExcC K ad.NothingToUndo
  m_NothingToUndo : PySem.W.exmOne K (.ref ad.NothingToUndo) (.ref ad.S) = some true
  k_NothingToUndo_InvalidRule : PySem.W.kitOne K (.ref ad.NothingToUndo) (.ref ad.InvalidRule) = some false
  k_NothingToUndo_InvalidLog : PySem.W.kitOne K (.ref ad.NothingToUndo) (.ref ad.InvalidLog) = some false
  k_NothingToUndo_InvalidTime : PySem.W.kitOne K (.ref ad.NothingToUndo) (.ref ad.InvalidTime) = some false
  k_NothingToUndo_InvalidNumber : PySem.W.kitOne K (.ref ad.NothingToUndo) (.ref ad.InvalidNumber) = some false
  k_NothingToUndo_InvalidIndex : PySem.W.kitOne K (.ref ad.NothingToUndo) (.ref ad.InvalidIndex) = some false
  k_NothingToUndo_InvalidSeen : PySem.W.kitOne K (.ref ad.NothingToUndo) (.ref ad.InvalidSeen) = some false
  k_NothingToUndo_NothingToUndo : PySem.W.kitOne K (.ref ad.NothingToUndo) (.ref ad.NothingToUndo) = some true
  k_NothingToUndo_TooMany : PySem.W.kitOne K (.ref ad.NothingToUndo) (.ref ad.TooMany) = some false
  e_TooMany : ErrC K mg "TooMany" ad.TooMany
  x_TooMany : ExcC K ad.TooMany
  m_TooMany : PySem.W.exmOne K (.ref ad.TooMany) (.ref ad.S) = some true
  k_TooMany_InvalidRule : PySem.W.kitOne K (.ref ad.TooMany) (.ref ad.InvalidRule) = some false
  k_TooMany_InvalidLog : PySem.W.kitOne K (.ref ad.TooMany) (.ref ad.InvalidLog) = some false
  k_TooMany_InvalidTime : PySem.W.kitOne K (.ref ad.TooMany) (.ref ad.InvalidTime) = some false
  k_TooMany_InvalidNumber : PySem.W.kitOne K (.ref ad.TooMany) (.ref ad.InvalidNumber) = some false
  k_TooMany_InvalidIndex : PySem.W.kitOne K (.ref ad.TooMany) (.ref ad.InvalidIndex) = some false
  k_TooMany_InvalidSeen : PySem.W.kitOne K (.ref ad.TooMany) (.ref ad.InvalidSeen) = some false
  k_TooMany_NothingToUndo : PySem.W.kitOne K (.ref ad.TooMany) (.ref ad.NothingToUndo) = some false
  k_TooMany_TooMany : PySem.W.kitOne K (.ref ad.TooMany) (.ref ad.TooMany) = some true
  g_LAST : ∃ t, mg "LAST" = some (.int 1000000 t)
  g_MOST_COUNT : ∃ t, mg "MOST_COUNT" = some (.int 20 t)
  g_MOST_IDLE : ∃ t, mg "MOST_IDLE" = some (.int 1000 t)
  doc : DocT K mg ad.D
structure Tbs (base : Heap) (mg : Str → Option Value) (ad : Adr) : Prop where
  t_law_step : LamX.TabB base mg ad.c_law_step ad.P_law_step
  t_law : LamX.TabB base mg ad.c_law ad.P_law
def csOf (ad : Adr) : List (Addr × Addr) := [(ad.c_law_step, ad.P_law_step), (ad.c_law, ad.P_law)]
section
variable {P : Program} {w : World} {K : PySem.W.Frag} {mg : Str → Option Value} {base : Heap} {ad : Adr}
def b_in_range : Rho → Option Out :=
    (retP (andV (b1D (varD .bas 0) (isTyD .int)) (andV (b1D (b1D (varD .bas 0) (isTyD .bool)) notD) (chD leD leD (varD .bas 1) (varD .bas 0) (varD .bas 2)))))
def F_in_range : List D → Option D := runF 3 3 b_in_range
theorem fn_in_range (T : Txt K mg ad) : Fn P w K mg base 1 "in_range" F_in_range := by
  obtain ⟨f, fd, F, bi, hm⟩ := T.d_in_range.ex
  exact fn_mk F sc_in_range bi hm rfl rfl (fun B cdv A outer s H E hr =>
      (ds_one (ds_ret (dp_and (dp_isi (T := .int) T.z_isinstance T.z_int rfl (dp_var 0)) (dp_and (dp_not (dp_isi (T := .bool) T.z_isinstance T.z_bool rfl (dp_var 0))) (dp_one (dp_chain op_le o_cmp op_le o_cmp (dp_var 1) (dp_var 0) (dp_var 2))))))))
def b_is_rule : Rho → Option Out :=
    (seqF (iteF (toT (orT (notT (tstD (b1D (varD .bas 0) (isTyD .tuple)))) (tstD (b2D (nD (consA (varD .bas 0) nilA) lenD) (kD (.int 2)) neD)))) (retP (kD (.bool false))) skipF)
    (retP (andV (nD (consA (b2D (varD .bas 0) (kD (.int 0)) ixD) (consA (kD (.int 1)) (consA (kD (.int 20)) nilA))) F_in_range) (nD (consA (b2D (varD .bas 0) (kD (.int 1)) ixD) (consA (kD (.int 1)) (consA (kD (.int 1000)) nilA))) F_in_range))))
def F_is_rule : List D → Option D := runF 1 1 b_is_rule
theorem fn_is_rule (T : Txt K mg ad) : Fn P w K mg base 2 "is_rule" F_is_rule := by
  obtain ⟨f, fd, F, bi, hm⟩ := T.d_is_rule.ex
  exact fn_mk F sc_is_rule bi hm rfl rfl (fun B cdv A outer s H E hr =>
      (ds_cons (ds_if (det_of (dt_w (dw_or (dt_not (dt_val (m := .bas) (dp_isi (T := .tuple) T.z_isinstance T.z_tuple rfl (dp_var 0)))) (dw_or1 (dt_cmp (m := .bas) (op_neD hr.units) o_ne (dp_b call_len_seq n_len T.z_len PySem.boot_len (dpa_cons (dp_var 0) dpa_nil)) dp_int (nomark _)))))) (ds_one (ds_ret dp_bool)) ds_nil)
      (ds_one (ds_ret (dp_and (dp_call (fn_in_range T) hr (by decide) (dpa_cons (dp_ix ix_seq o_ix (dp_var 0) dp_int) (dpa_cons dp_int (dpa_cons (dp_glob (T.g_MOST_COUNT.choose_spec) ⟨_, rfl⟩) dpa_nil)))) (dp_one (dp_call (fn_in_range T) hr (by decide) (dpa_cons (dp_ix ix_seq o_ix (dp_var 0) dp_int) (dpa_cons dp_int (dpa_cons (dp_glob (T.g_MOST_IDLE.choose_spec) ⟨_, rfl⟩) dpa_nil))))))))))
def b_check_rule : Rho → Option Out :=
    (iteF (toT (notT (tstD (nD (consA (varD .bas 0) nilA) F_is_rule)))) neverF skipF)
def F_check_rule : List D → Option D := runF 1 1 b_check_rule
theorem fn_check_rule (T : Txt K mg ad) : Fn P w K mg base 3 "check_rule" F_check_rule := by
  obtain ⟨f, fd, F, bi, hm⟩ := T.d_check_rule.ex
  exact fn_mk F sc_check_rule bi hm rfl rfl (fun B cdv A outer s H E hr =>
      (ds_one (ds_if (det_of (dt_not (dt_val (m := .bas) (dp_call (fn_is_rule T) hr (by decide) (dpa_cons (dp_var 0) dpa_nil))))) (ds_one ds_never) ds_nil)))
def l_played_1 : Rho → Option Out :=
    (seqF (iteF (toT (andT (tstD (b2D (varD .bas 4) (kD (.int 0)) gtD)) (tstD (b2D (b2D (varD .bas 8) (b2D (varD .bas 1) (b2D (varD .bas 7) (kD (.int 1)) subD) ixD) subD) (varD .bas 3) geD)))) (seqF (appF 6 (nD (consA (b2D (b2D (varD .str 1) (b2D (varD .str 7) (kD (.int 1)) subD) ixD) (varD .str 3) addD) (consA (kD (.str "idle")) nilA)) tupD))
    (setP 4 (kD (.int 0)))) skipF)
    (seqF (setP 4 (b2D (varD .str 4) (kD (.int 1)) addD))
    (seqF (iteF (toT (tstD (b2D (varD .bas 4) (varD .bas 2) eqD))) (seqF (appF 6 (nD (consA (varD .str 8) (consA (kD (.str "count")) nilA)) tupD))
    (setP 4 (kD (.int 0)))) skipF)
    (appF 5 (varD .str 4)))))
def b_played : Rho → Option Out :=
    (seqF (asgF (toE (varD .str 0)) (bTup 2 (bCons (bName 2) (bCons (bName 3) bNil))))
    (seqF (parDOO 4 5 6 (kD (.int 0)))
    (seqF (forF (toI (enI (varD .str 1))) (bTup 2 (bCons (bName 7) (bCons (bName 8) bNil))) l_played_1)
    (seqF (iteF (toT (tstD (b2D (varD .bas 4) (kD (.int 0)) gtD))) (appF 6 (nD (consA (b2D (b2D (varD .str 1) (b1D (kD (.int 1)) negD) ixD) (varD .str 3) addD) (consA (kD (.str "idle")) nilA)) tupD)) skipF)
    (retP (nD (consA (varD .bas 5) (consA (varD .bas 6) nilA)) tupD))))))
def F_played : List D → Option D := runF 2 9 b_played
theorem fn_played (T : Txt K mg ad) : Fn P w K mg base 1 "played" F_played := by
  obtain ⟨f, fd, F, bi, hm⟩ := T.d_played.ex
  exact fn_mk F sc_played bi hm rfl rfl (fun B cdv A outer s H E hr =>
      (ds_cons (ds_asg (de_of (dp_var 0)) (dg_tup rfl (dgs_cons (dg_name (i := 2) sc_played.nd rfl (by first | exact Or.inl rfl | exact Or.inr rfl) (by first | exact .inl rfl | exact .inr rfl)) (dgs_cons (dg_name (i := 3) sc_played.nd rfl (by first | exact Or.inl rfl | exact Or.inr rfl) (by first | exact .inl rfl | exact .inr rfl)) dgs_nil))))
      (ds_cons (ds_parDOO rfl sc_played.nd rfl rfl rfl (by decide) (by decide) (by decide) rfl rfl rfl dp_int rfl)
      (ds_cons (ds_for PassesOwn.never rfl (die_of (di_enum T.z_enumerate (dp_var 1))) (dg_tup rfl (dgs_cons (dg_name (i := 7) sc_played.nd rfl (by first | exact Or.inl rfl | exact Or.inr rfl) (by first | exact .inl rfl | exact .inr rfl)) (dgs_cons (dg_name (i := 8) sc_played.nd rfl (by first | exact Or.inl rfl | exact Or.inr rfl) (by first | exact .inl rfl | exact .inr rfl)) dgs_nil))) (ds_cons (ds_if (det_of (dt_w (dw_and (dt_cmp (m := .bas) op_gt o_cmp (dp_var 4) dp_int (nomark _)) (dw_and1 (dt_cmp (m := .bas) op_ge o_cmp (dp_op op_sub o_sub (dp_var 8) (dp_ix ix_seq o_ix (dp_var 1) (dp_op op_sub o_sub (dp_var 7) dp_int))) (dp_var 3) (nomark _)))))) (ds_cons (ds_app (i := 6) rfl (dp_tup (dpa_cons (dp_op op_addA o_add (dp_ix ix_seq o_ix (dp_var 1) (dp_op op_sub o_sub (dp_var 7) dp_int)) (dp_var 3)) (dpa_cons dp_str dpa_nil))))
      (ds_one (ds_setP (i := 4) sc_played.nd rfl (by first | exact Or.inl rfl | exact Or.inr rfl) dp_int))) ds_nil)
      (ds_cons (ds_setP (i := 4) sc_played.nd rfl (by first | exact Or.inl rfl | exact Or.inr rfl) (dp_op op_addA o_add (dp_var 4) dp_int))
      (ds_cons (ds_if (det_of (dt_cmp (m := .bas) (op_eqD hr.units) o_eq (dp_var 4) (dp_var 2) (nomark _))) (ds_cons (ds_app (i := 6) rfl (dp_tup (dpa_cons (dp_var 8) (dpa_cons dp_str dpa_nil))))
      (ds_one (ds_setP (i := 4) sc_played.nd rfl (by first | exact Or.inl rfl | exact Or.inr rfl) dp_int))) ds_nil)
      (ds_one (ds_app (i := 5) rfl (dp_var 4)))))))
      (ds_cons (ds_if (det_of (dt_cmp (m := .bas) op_gt o_cmp (dp_var 4) dp_int (nomark _))) (ds_one (ds_app (i := 6) rfl (dp_tup (dpa_cons (dp_op op_addA o_add (dp_ix ix_seq o_ix (dp_var 1) (dp_un un_neg o_neg dp_int)) (dp_var 3)) (dpa_cons dp_str dpa_nil))))) ds_nil)
      (ds_one (ds_ret (dp_tup (dpa_cons (dp_var 5) (dpa_cons (dp_var 6) dpa_nil))))))))))
def c_unsaved_at_1 : Rho → Option D :=
    (lcD (itD (varD .str 1)) [4] (bName 4) (tstD (b2D (varD .bas 4) (varD .bas 2) leD)) (varD .str 4))
def b_unsaved_at : Rho → Option Out :=
    (seqF (setP 3 (nD (consA c_unsaved_at_1 nilA) tupleD))
    (seqF (setP 5 (b2D (nD (consA (varD .str 0) (consA (varD .str 3) nilA)) F_played) (kD (.int 0)) ixD))
    (retP (ifD (orT (tstD (b2D (varD .bas 5) (nD nilA lstD) eqD)) (tstD (b2D (b2D (varD .bas 2) (b2D (varD .bas 3) (b1D (kD (.int 1)) negD) ixD) subD) (b2D (varD .bas 0) (kD (.int 1)) ixD) geD))) (kD (.int 0)) (b2D (varD .bas 5) (b1D (kD (.int 1)) negD) ixD)))))
def F_unsaved_at : List D → Option D := runF 3 6 b_unsaved_at
theorem fn_unsaved_at (T : Txt K mg ad) : Fn P w K mg base 2 "unsaved_at" F_unsaved_at := by
  obtain ⟨f, fd, F, bi, hm⟩ := T.d_unsaved_at.ex
  exact fn_mk F sc_unsaved_at bi hm rfl rfl (fun B cdv A outer s H E hr =>
      (ds_cons (ds_setP (i := 3) sc_unsaved_at.nd rfl (by first | exact Or.inl rfl | exact Or.inr rfl) (dp_ty call_tuple_of n_tuple T.z_tuple boot_tuple (dpa_cons (dp_lc (own := [("moment", 4)]) rfl sc_unsaved_at.nd (dic_of (di_seq (dp_var 1))) (blkOk_by (own := [("moment", 4)]) (N := ["rule", "log", "time", "part", "moment", "rows"]) (sc := defScope st_unsaved_at) (by decide +kernel)) (by decide) (fun _ _ _ _ _ => (dg_name (i := 4) sc_unsaved_at.nd rfl (by first | exact Or.inl rfl | exact Or.inr rfl) (by first | exact .inl rfl | exact .inr rfl))) (fun _ _ _ _ _ => (dts_one (dt_cmp (m := .bas) op_le o_cmp (dp_var 4) (dp_var 2) (nomark _)))) (fun _ _ _ _ _ => (dp_var 4))) dpa_nil)))
      (ds_cons (ds_setP (i := 5) sc_unsaved_at.nd rfl (by first | exact Or.inl rfl | exact Or.inr rfl) (dp_ix ix_seq o_ix (dp_call (fn_played T) hr (by decide) (dpa_cons (dp_var 0) (dpa_cons (dp_var 3) dpa_nil))) dp_int))
      (ds_one (ds_ret (dp_if (dt_w (dw_or (dt_cmp (m := .bas) (op_eqD hr.units) o_eq (dp_var 5) (dp_lst dpa_nil) (nomark _)) (dw_or1 (dt_cmp (m := .bas) op_ge o_cmp (dp_op op_sub o_sub (dp_var 2) (dp_ix ix_seq o_ix (dp_var 3) (dp_un un_neg o_neg dp_int))) (dp_ix ix_seq o_ix (dp_var 0) dp_int) (nomark _))))) dp_int (dp_ix ix_seq o_ix (dp_var 5) (dp_un un_neg o_neg dp_int))))))))
def b_law_well : Rho → Option Out :=
    (seqF (iteF (toT (tstD (b2D (varD .bas 0) (b2D (kD (.int 10)) (kD (.int 18)) powD) geD))) (retP (nD (consA (b2D (varD .bas 0) (b2D (kD (.int 10)) (kD (.int 18)) powD) subD) (consA (b2D (varD .bas 0) (kD (.int 2305843009213693951)) modD) (consA (varD .bas 1) nilA))) lstD)) skipF)
    (retP (nD (consA (kD (.int 0)) (consA (b2D (varD .bas 0) (kD (.int 2305843009213693951)) modD) (consA (varD .bas 1) nilA))) lstD)))
def F_law_well : List D → Option D := runF 2 2 b_law_well
theorem fn_law_well (T : Txt K mg ad) : Fn P w K mg base 1 "_law_well" F_law_well := by
  obtain ⟨f, fd, F, bi, hm⟩ := T.d_law_well.ex
  exact fn_mk F sc_law_well bi hm rfl rfl (fun B cdv A outer s H E hr =>
      (ds_cons (ds_if (det_of (dt_cmp (m := .bas) op_ge o_cmp (dp_var 0) (dp_op op_pow o_pow dp_int dp_int) (nomark _))) (ds_one (ds_ret (dp_lst (dpa_cons (dp_op op_sub o_sub (dp_var 0) (dp_op op_pow o_pow dp_int dp_int)) (dpa_cons (dp_op op_mod o_mod (dp_var 0) dp_int) (dpa_cons (dp_var 1) dpa_nil)))))) ds_nil)
      (ds_one (ds_ret (dp_lst (dpa_cons dp_int (dpa_cons (dp_op op_mod o_mod (dp_var 0) dp_int) (dpa_cons (dp_var 1) dpa_nil))))))))
def b_law_take : Rho → Option Out :=
    (seqF (iteF (toT (tstD (b2D (ixO 0 (kD (.int 0))) (kD (.int 0)) gtD))) (seqF (setP 2 (b2D (ixO 0 (kD (.int 0))) (varD .str 1) modD))
    (seqF (subF 0 (kD (.int 0)) (b2D (ixO 0 (kD (.int 0))) (varD .str 1) fdivD))
    (retP (varD .bas 2)))) skipF)
    (seqF (subF 0 (kD (.int 2)) (b2D (ixO 0 (kD (.int 2))) (kD (.int 1)) addD))
    (seqF (setP 3 (kD (.int 2305843009213693951)))
    (seqF (setP 4 (b2D (b2D (ixO 0 (kD (.int 1))) (b2D (kD (.int 1000003)) (ixO 0 (kD (.int 2))) mulT) addD) (varD .str 3) modD))
    (seqF (setP 4 (b2D (b2D (b2D (b2D (varD .str 4) (varD .str 4) mulT) (b2D (kD (.int 7919)) (b2D (ixO 0 (kD (.int 2))) (kD (.int 2)) powD) mulT) addD) (kD (.int 5)) addD) (varD .str 3) modD))
    (retP (b2D (b2D (b2D (b2D (varD .bas 4) (kD (.int 3)) powD) (varD .bas 3) modD) (kD (.int 13)) fdivD) (varD .bas 1) modD)))))))
def F_law_take : List D → List D → Option (D × List D) := runB 1 5 b_law_take
theorem fn_law_take (T : Txt K mg ad) : BFn P w K mg base 1 "_law_take" F_law_take := by
  obtain ⟨f, fd, F, bi, hm⟩ := T.d_law_take.ex
  exact bfn_mk F sc_law_take bi hm rfl rfl (fun B cdv A outer s H E hr =>
      (ds_cons (ds_if (det_of (dt_cmp (m := .bas) op_gt o_cmp (dp_ixO (i := 0) rfl dp_int) dp_int (nomark _))) (ds_cons (ds_setP (i := 2) sc_law_take.nd rfl (by first | exact Or.inl rfl | exact Or.inr rfl) (dp_op op_mod o_mod (dp_ixO (i := 0) rfl dp_int) (dp_var 1)))
      (ds_cons (ds_sub (i := 0) rfl dp_int (dp_op op_fdivW o_fdiv (dp_ixO (i := 0) rfl dp_int) (dp_var 1)))
      (ds_one (ds_ret (dp_var 2))))) ds_nil)
      (ds_cons (ds_sub (i := 0) rfl dp_int (dp_op op_addA o_add (dp_ixO (i := 0) rfl dp_int) dp_int))
      (ds_cons (ds_setP (i := 3) sc_law_take.nd rfl (by first | exact Or.inl rfl | exact Or.inr rfl) dp_int)
      (ds_cons (ds_setP (i := 4) sc_law_take.nd rfl (by first | exact Or.inl rfl | exact Or.inr rfl) (dp_op op_mod o_mod (dp_op op_addA o_add (dp_ixO (i := 0) rfl dp_int) (dp_op op_mulT o_mulT dp_int (dp_ixO (i := 0) rfl dp_int))) (dp_var 3)))
      (ds_cons (ds_setP (i := 4) sc_law_take.nd rfl (by first | exact Or.inl rfl | exact Or.inr rfl) (dp_op op_mod o_mod (dp_op op_addA o_add (dp_op op_addA o_add (dp_op op_mulT o_mulT (dp_var 4) (dp_var 4)) (dp_op op_mulT o_mulT dp_int (dp_op op_pow o_pow (dp_ixO (i := 0) rfl dp_int) dp_int))) dp_int) (dp_var 3)))
      (ds_one (ds_ret (dp_op op_mod o_mod (dp_op op_fdivW o_fdiv (dp_op op_mod o_mod (dp_op op_pow o_pow (dp_var 4) dp_int) (dp_var 3)) dp_int) (dp_var 1))))))))))
theorem well_F (c t : Int) : F_law_well [.int c, .int t] = some (.list (intsD (wellL c t))) := by
  unfold wellL F_law_well b_law_well
  by_cases h : (1000000000000000000 : Int) ≤ c <;> simp [intsD, h]
theorem bags_fn (T : Txt K mg ad) : BagsFn P w K mg base 2 := by
  obtain ⟨f, fd, F, bi, hm⟩ := T.d_law_bags.ex
  obtain ⟨fw, fdw, psw, GW, hmw, kpw, biw⟩ := (fn_law_well (P := P) (w := w) (base := base) T).ex
  refine ⟨f, fd, ["_law_script", "_law_most"], F.ok sc_law_bags (fun vs H Q E h => ?_) (fun cdv A outer s H vs Q E hr h => ?_), hm, F.kp, bi⟩
  · obtain ⟨a, ns, n, rfl, _⟩ := h
    rfl
  · obtain ⟨a, ns, n, rfl, h'⟩ := id h
    have der : PSs (cxOf CX0 P w K mg base ["_law_script", "_law_most", "_law_k", "_law_cell"] "_law_bags" (defScope st_law_bags) f cdv A outer s H E).nox (defBody st_law_bags)
        (tRet (tLc (iEnum K (tCons (tOp (rAddA K) (tSl (rSlL K) (tVar 0) tNoPart (tPart (tVar 1))) (tLst (tCons (tC (.int 0)) tNil))) tNil)) (gTup K 2 (gCons (gName 2) (gCons (gName 3) gNil))) tYes
          (tCall (spP F_law_well) [] E0 (tCons (tVar 3) (tCons (tOp (rI CMul fun i j => .int (i * j)) (tC (.int 977)) (tVar 2)) tNil))) [2, 3])) :=
      pss_one (ps_ret (pe_lc (own := [("_law_k", 2), ("_law_cell", 3)]) rfl sc_law_bags.nd
      (pi_enum rfl T.z_enumerate (pa_cons (pe_op op_addA (pe_slice sl_list (pv 0) po_none (po_some (pv 1))) (pe_lst (pa_cons pe_int pa_nil))) pa_nil))
      (blkOk_by (own := [("_law_k", 2), ("_law_cell", 3)]) (N := ["_law_script", "_law_most", "_law_k", "_law_cell"]) (sc := defScope st_law_bags) (by decide +kernel))
      (fun _ _ _ _ _ => pg_tup rfl (pgs_cons (pg_name (i := 2) sc_law_bags.nd rfl (Or.inl rfl)) (pgs_cons (pg_name (i := 3) sc_law_bags.nd rfl (Or.inl rfl)) pgs_nil)))
      (fun _ _ _ _ _ => pts_nil)
      (fun _ _ _ _ _ => pe_call GW hr rfl hmw kpw biw .nil pass0 (pa_cons (pv 3) (pa_cons (pe_op op_mul pe_int (pv 2)) pa_nil)))))
    exact ⟨_, der, bags_read well_F h rfl⟩
def b_law_same (F_law_same : List D → Option D) : Rho → Option Out :=
    (seqF (iteF (toT (orT (andT (tstD (b1D (varD .bas 0) (isTyD .list))) (tstD (b1D (varD .bas 1) (isTyD .list)))) (andT (tstD (b1D (varD .bas 0) (isTyD .tuple))) (tstD (b1D (varD .bas 1) (isTyD .tuple)))))) (retP (andV (b2D (nD (consA (varD .bas 0) nilA) lenD) (nD (consA (varD .bas 1) nilA) lenD) eqD) (nD (consA (lcD (zipI (varD .str 0) (varD .str 1)) [2, 3] (bTup 2 (bCons (bName 2) (bCons (bName 3) bNil))) yesT (nD (consA (varD .str 2) (consA (varD .str 3) nilA)) F_law_same)) nilA) allD))) skipF)
    (seqF (iteF (toT (orT (tstD (b1D (varD .bas 0) (isAnyD [.bool, .list, .tuple]))) (tstD (b1D (varD .bas 1) (isAnyD [.bool, .list, .tuple]))))) (retP (andV (b1D (varD .bas 0) (isTyD .bool)) (andV (b1D (varD .bas 1) (isTyD .bool)) (b2D (varD .bas 0) (varD .bas 1) eqD)))) skipF)
    (seqF (iteF (toT (orT (tstD (b1D (varD .bas 0) (isTyD .int))) (tstD (b1D (varD .bas 1) (isTyD .int))))) (retP (andV (b1D (varD .bas 0) (isTyD .int)) (andV (b1D (varD .bas 1) (isTyD .int)) (b2D (varD .bas 0) (varD .bas 1) eqD)))) skipF)
    (seqF (iteF (toT (orT (tstD (b1D (varD .bas 0) (isTyD .str))) (tstD (b1D (varD .bas 1) (isTyD .str))))) (retP (andV (b1D (varD .bas 0) (isTyD .str)) (andV (b1D (varD .bas 1) (isTyD .str)) (b2D (varD .bas 0) (varD .bas 1) eqD)))) skipF)
    (retP (andV (b2D (varD .bas 0) (kD .none) isND) (b2D (varD .bas 1) (kD .none) isND)))))))
def F_law_same : Nat → List D → Option D
  | 0 => fun _ => none
  | j + 1 => runF 2 4 (b_law_same (F_law_same j))
theorem fn_law_same_z (T : Txt K mg ad) : Fn P w K mg base 1 "_law_same" (F_law_same 0) := by
  obtain ⟨f, fd, F, bi, hm⟩ := T.d_law_same.ex
  exact fn_zero F sc_law_same bi hm
theorem fn_law_same_r (T : Txt K mg ad) : ∀ j, Fn P w K mg base (1 + j) "_law_same" (F_law_same j)
  | 0 => (fn_law_same_z T).mono (by omega)
  | j + 1 => by
    obtain ⟨f, fd, F, bi, hm⟩ := T.d_law_same.ex
    exact fn_mk F sc_law_same bi hm rfl rfl (fun B cdv A outer s H E hr =>
      have ih := fn_law_same_r T j; (ds_cons (ds_if (det_of (dt_w (dw_or (dt_w (dw_and (dt_val (m := .bas) (dp_isi (T := .list) T.z_isinstance T.z_list rfl (dp_var 0))) (dw_and1 (dt_val (m := .bas) (dp_isi (T := .list) T.z_isinstance T.z_list rfl (dp_var 1)))))) (dw_or1 (dt_w (dw_and (dt_val (m := .bas) (dp_isi (T := .tuple) T.z_isinstance T.z_tuple rfl (dp_var 0))) (dw_and1 (dt_val (m := .bas) (dp_isi (T := .tuple) T.z_isinstance T.z_tuple rfl (dp_var 1)))))))))) (ds_one (ds_ret (dp_and (dp_cmp (op_eqD hr.units) o_eq (dp_b call_len_seq n_len T.z_len PySem.boot_len (dpa_cons (dp_var 0) dpa_nil)) (dp_b call_len_seq n_len T.z_len PySem.boot_len (dpa_cons (dp_var 1) dpa_nil)) (nomark _)) (dp_one (dp_b (cr_all rfl) n_all T.z_all boot_all (dpa_cons (dp_lc (own := [("_law_x", 2), ("_law_y", 3)]) rfl sc_law_same.nd (dic_of (di_zip T.z_zip (dp_var 0) (dp_var 1))) (blkOk_by (own := [("_law_x", 2), ("_law_y", 3)]) (N := ["_law_a", "_law_b", "_law_x", "_law_y"]) (sc := defScope st_law_same) (by decide +kernel)) (by decide) (fun _ _ _ _ _ => (dg_tup rfl (dgs_cons (dg_name (i := 2) sc_law_same.nd rfl (by first | exact Or.inl rfl | exact Or.inr rfl) (by first | exact .inl rfl | exact .inr rfl)) (dgs_cons (dg_name (i := 3) sc_law_same.nd rfl (by first | exact Or.inl rfl | exact Or.inr rfl) (by first | exact .inl rfl | exact .inr rfl)) dgs_nil)))) (fun _ _ _ _ _ => dts_nil) (fun _ _ _ _ _ => (dp_call ih hr (Nat.le_refl _) (dpa_cons (dp_var 2) (dpa_cons (dp_var 3) dpa_nil))))) dpa_nil)))))) ds_nil)
      (ds_cons (ds_if (det_of (dt_w (dw_or (dt_val (m := .bas) (dp_isi3 (T1 := .bool) (T2 := .list) (T3 := .tuple) T.z_isinstance T.z_bool T.z_list T.z_tuple rfl rfl rfl (dp_var 0))) (dw_or1 (dt_val (m := .bas) (dp_isi3 (T1 := .bool) (T2 := .list) (T3 := .tuple) T.z_isinstance T.z_bool T.z_list T.z_tuple rfl rfl rfl (dp_var 1))))))) (ds_one (ds_ret (dp_and (dp_isi (T := .bool) T.z_isinstance T.z_bool rfl (dp_var 0)) (dp_and (dp_isi (T := .bool) T.z_isinstance T.z_bool rfl (dp_var 1)) (dp_one (dp_cmp (op_eqD hr.units) o_eq (dp_var 0) (dp_var 1) (nomark _))))))) ds_nil)
      (ds_cons (ds_if (det_of (dt_w (dw_or (dt_val (m := .bas) (dp_isi (T := .int) T.z_isinstance T.z_int rfl (dp_var 0))) (dw_or1 (dt_val (m := .bas) (dp_isi (T := .int) T.z_isinstance T.z_int rfl (dp_var 1))))))) (ds_one (ds_ret (dp_and (dp_isi (T := .int) T.z_isinstance T.z_int rfl (dp_var 0)) (dp_and (dp_isi (T := .int) T.z_isinstance T.z_int rfl (dp_var 1)) (dp_one (dp_cmp (op_eqD hr.units) o_eq (dp_var 0) (dp_var 1) (nomark _))))))) ds_nil)
      (ds_cons (ds_if (det_of (dt_w (dw_or (dt_val (m := .bas) (dp_isi (T := .str) T.z_isinstance T.z_str rfl (dp_var 0))) (dw_or1 (dt_val (m := .bas) (dp_isi (T := .str) T.z_isinstance T.z_str rfl (dp_var 1))))))) (ds_one (ds_ret (dp_and (dp_isi (T := .str) T.z_isinstance T.z_str rfl (dp_var 0)) (dp_and (dp_isi (T := .str) T.z_isinstance T.z_str rfl (dp_var 1)) (dp_one (dp_cmp (op_eqD hr.units) o_eq (dp_var 0) (dp_var 1) (nomark _))))))) ds_nil)
      (ds_one (ds_ret (dp_and (dp_cmp op_isN o_isN (dp_var 0) dp_none (nomark _)) (dp_one (dp_cmp op_isN o_isN (dp_var 1) dp_none (nomark _)))))))))))
def b_law_in : Rho → Option Out :=
    (retP (andV (b1D (varD .bas 0) (isTyD .int)) (andV (b1D (b1D (varD .bas 0) (isTyD .bool)) notD) (chD leD leD (varD .bas 1) (varD .bas 0) (varD .bas 2)))))
def F_law_in : List D → Option D := runF 3 3 b_law_in
theorem fn_law_in (T : Txt K mg ad) : Fn P w K mg base 1 "_law_in" F_law_in := by
  obtain ⟨f, fd, F, bi, hm⟩ := T.d_law_in.ex
  exact fn_mk F sc_law_in bi hm rfl rfl (fun B cdv A outer s H E hr =>
      (ds_one (ds_ret (dp_and (dp_isi (T := .int) T.z_isinstance T.z_int rfl (dp_var 0)) (dp_and (dp_not (dp_isi (T := .bool) T.z_isinstance T.z_bool rfl (dp_var 0))) (dp_one (dp_chain op_le o_cmp op_le o_cmp (dp_var 1) (dp_var 0) (dp_var 2))))))))
def l_law_play_1 : Rho → Option Out :=
    (seqF (iteF (toT (andT (tstD (b2D (varD .bas 4) (nD nilA lstD) neD)) (tstD (b2D (b2D (varD .bas 1) (varD .bas 7) ixD) (b2D (b2D (varD .bas 1) (b2D (varD .bas 4) (b1D (kD (.int 1)) negD) ixD) ixD) (varD .bas 3) addD) geD)))) (seqF (appF 6 (nD (consA (b2D (b2D (varD .str 1) (b2D (varD .str 4) (b1D (kD (.int 1)) negD) ixD) ixD) (varD .str 3) addD) (consA (kD (.str "idle")) nilA)) tupD))
    (setP 4 (nD nilA lstD))) skipF)
    (seqF (setP 4 (b2D (varD .str 4) (nD (consA (varD .str 7) nilA) lstD) addD))
    (seqF (iteF (toT (tstD (b2D (nD (consA (varD .bas 4) nilA) lenD) (varD .bas 2) geD))) (seqF (appF 6 (nD (consA (b2D (varD .str 1) (varD .str 7) ixD) (consA (kD (.str "count")) nilA)) tupD))
    (setP 4 (nD nilA lstD))) skipF)
    (appF 5 (varD .str 4)))))
def b_law_play : Rho → Option Out :=
    (seqF (asgF (toE (varD .str 0)) (bTup 2 (bCons (bName 2) (bCons (bName 3) bNil))))
    (seqF (parDOO 4 5 6 (nD nilA lstD))
    (seqF (forF (toI (nI (consA (nD (consA (varD .str 1) nilA) lenD) nilA) rng1)) (bName 7) l_law_play_1)
    (seqF (iteF (toT (tstD (b2D (varD .bas 4) (nD nilA lstD) neD))) (appF 6 (nD (consA (b2D (b2D (varD .str 1) (b2D (varD .str 4) (b1D (kD (.int 1)) negD) ixD) ixD) (varD .str 3) addD) (consA (kD (.str "idle")) nilA)) tupD)) skipF)
    (retP (nD (consA (varD .bas 5) (consA (varD .bas 6) nilA)) tupD))))))
def F_law_play : List D → Option D := runF 2 8 b_law_play
theorem fn_law_play (T : Txt K mg ad) : Fn P w K mg base 1 "_law_play" F_law_play := by
  obtain ⟨f, fd, F, bi, hm⟩ := T.d_law_play.ex
  exact fn_mk F sc_law_play bi hm rfl rfl (fun B cdv A outer s H E hr =>
      (ds_cons (ds_asg (de_of (dp_var 0)) (dg_tup rfl (dgs_cons (dg_name (i := 2) sc_law_play.nd rfl (by first | exact Or.inl rfl | exact Or.inr rfl) (by first | exact .inl rfl | exact .inr rfl)) (dgs_cons (dg_name (i := 3) sc_law_play.nd rfl (by first | exact Or.inl rfl | exact Or.inr rfl) (by first | exact .inl rfl | exact .inr rfl)) dgs_nil))))
      (ds_cons (ds_parDOO rfl sc_law_play.nd rfl rfl rfl (by decide) (by decide) (by decide) rfl rfl rfl (dp_lst dpa_nil) rfl)
      (ds_cons (ds_for PassesOwn.never rfl (die_of (di_rng1 T.z_range (dpa_cons (dp_b call_len_seq n_len T.z_len PySem.boot_len (dpa_cons (dp_var 1) dpa_nil)) dpa_nil))) (dg_name (i := 7) sc_law_play.nd rfl (by first | exact Or.inl rfl | exact Or.inr rfl) (by first | exact .inl rfl | exact .inr rfl)) (ds_cons (ds_if (det_of (dt_w (dw_and (dt_cmp (m := .bas) (op_neD hr.units) o_ne (dp_var 4) (dp_lst dpa_nil) (nomark _)) (dw_and1 (dt_cmp (m := .bas) op_ge o_cmp (dp_ix ix_seq o_ix (dp_var 1) (dp_var 7)) (dp_op op_addA o_add (dp_ix ix_seq o_ix (dp_var 1) (dp_ix ix_seq o_ix (dp_var 4) (dp_un un_neg o_neg dp_int))) (dp_var 3)) (nomark _)))))) (ds_cons (ds_app (i := 6) rfl (dp_tup (dpa_cons (dp_op op_addA o_add (dp_ix ix_seq o_ix (dp_var 1) (dp_ix ix_seq o_ix (dp_var 4) (dp_un un_neg o_neg dp_int))) (dp_var 3)) (dpa_cons dp_str dpa_nil))))
      (ds_one (ds_setP (i := 4) sc_law_play.nd rfl (by first | exact Or.inl rfl | exact Or.inr rfl) (dp_lst dpa_nil)))) ds_nil)
      (ds_cons (ds_setP (i := 4) sc_law_play.nd rfl (by first | exact Or.inl rfl | exact Or.inr rfl) (dp_op op_addA o_add (dp_var 4) (dp_lst (dpa_cons (dp_var 7) dpa_nil))))
      (ds_cons (ds_if (det_of (dt_cmp (m := .bas) op_ge o_cmp (dp_b call_len_seq n_len T.z_len PySem.boot_len (dpa_cons (dp_var 4) dpa_nil)) (dp_var 2) (nomark _))) (ds_cons (ds_app (i := 6) rfl (dp_tup (dpa_cons (dp_ix ix_seq o_ix (dp_var 1) (dp_var 7)) (dpa_cons dp_str dpa_nil))))
      (ds_one (ds_setP (i := 4) sc_law_play.nd rfl (by first | exact Or.inl rfl | exact Or.inr rfl) (dp_lst dpa_nil)))) ds_nil)
      (ds_one (ds_app (i := 5) rfl (dp_var 4)))))))
      (ds_cons (ds_if (det_of (dt_cmp (m := .bas) (op_neD hr.units) o_ne (dp_var 4) (dp_lst dpa_nil) (nomark _))) (ds_one (ds_app (i := 6) rfl (dp_tup (dpa_cons (dp_op op_addA o_add (dp_ix ix_seq o_ix (dp_var 1) (dp_ix ix_seq o_ix (dp_var 4) (dp_un un_neg o_neg dp_int))) (dp_var 3)) (dpa_cons dp_str dpa_nil))))) ds_nil)
      (ds_one (ds_ret (dp_tup (dpa_cons (dp_var 5) (dpa_cons (dp_var 6) dpa_nil))))))))))
def c_law_open_1 : Rho → Option D :=
    (lcD (itD (varD .str 1)) [4] (bName 4) (tstD (b2D (varD .bas 4) (varD .bas 2) leD)) (varD .str 4))
def b_law_open : Rho → Option Out :=
    (seqF (setP 3 (nD (consA c_law_open_1 nilA) tupleD))
    (seqF (iteF (toT (tstD (b2D (varD .bas 3) (nD nilA tupD) eqD))) (retP (nD nilA lstD)) skipF)
    (seqF (setP 5 (b2D (b2D (nD (consA (varD .str 0) (consA (varD .str 3) nilA)) F_law_play) (kD (.int 0)) ixD) (b1D (kD (.int 1)) negD) ixD))
    (retP (ifD (tstD (b2D (varD .bas 2) (b2D (b2D (varD .bas 3) (b1D (kD (.int 1)) negD) ixD) (b2D (varD .bas 0) (kD (.int 1)) ixD) addD) geD)) (nD nilA lstD) (varD .bas 5))))))
def F_law_open : List D → Option D := runF 3 6 b_law_open
theorem fn_law_open (T : Txt K mg ad) : Fn P w K mg base 2 "_law_open" F_law_open := by
  obtain ⟨f, fd, F, bi, hm⟩ := T.d_law_open.ex
  exact fn_mk F sc_law_open bi hm rfl rfl (fun B cdv A outer s H E hr =>
      (ds_cons (ds_setP (i := 3) sc_law_open.nd rfl (by first | exact Or.inl rfl | exact Or.inr rfl) (dp_ty call_tuple_of n_tuple T.z_tuple boot_tuple (dpa_cons (dp_lc (own := [("_law_moment", 4)]) rfl sc_law_open.nd (dic_of (di_seq (dp_var 1))) (blkOk_by (own := [("_law_moment", 4)]) (N := ["_law_rule", "_law_log", "_law_time", "_law_part", "_law_moment", "_law_waiting"]) (sc := defScope st_law_open) (by decide +kernel)) (by decide) (fun _ _ _ _ _ => (dg_name (i := 4) sc_law_open.nd rfl (by first | exact Or.inl rfl | exact Or.inr rfl) (by first | exact .inl rfl | exact .inr rfl))) (fun _ _ _ _ _ => (dts_one (dt_cmp (m := .bas) op_le o_cmp (dp_var 4) (dp_var 2) (nomark _)))) (fun _ _ _ _ _ => (dp_var 4))) dpa_nil)))
      (ds_cons (ds_if (det_of (dt_cmp (m := .bas) (op_eqD hr.units) o_eq (dp_var 3) (dp_tup dpa_nil) (nomark _))) (ds_one (ds_ret (dp_lst dpa_nil))) ds_nil)
      (ds_cons (ds_setP (i := 5) sc_law_open.nd rfl (by first | exact Or.inl rfl | exact Or.inr rfl) (dp_ix ix_seq o_ix (dp_ix ix_seq o_ix (dp_call (fn_law_play T) hr (by decide) (dpa_cons (dp_var 0) (dpa_cons (dp_var 3) dpa_nil))) dp_int) (dp_un un_neg o_neg dp_int)))
      (ds_one (ds_ret (dp_if (dt_cmp (m := .bas) op_ge o_cmp (dp_var 2) (dp_op op_addA o_add (dp_ix ix_seq o_ix (dp_var 3) (dp_un un_neg o_neg dp_int)) (dp_ix ix_seq o_ix (dp_var 0) dp_int)) (nomark _)) (dp_lst dpa_nil) (dp_var 5))))))))
def b_m_init : Rho → Option Out :=
    (dropE (toE (nD (consA (varD .str 1) nilA) F_check_rule)))
def g_m_init : Rho → Option D := (nD (consA (nD nilA tupD) (consA (kD (.int 0)) (consA (kD (.int 0)) (consA (nD nilA tupD) nilA)))) tupD)
def z_m_init : D := .tuple [.tuple [], .int 0, .int 0, .tuple []]
def F_m_init : Addr → D → Option D := inF b_m_init
theorem fn_m_init (T : Txt K mg ad) : IFn P w K mg base 4 ad.D "Document" F_m_init z_m_init := by
  obtain ⟨f, fd, Fu, bi, h1, h2, h3⟩ := T.doc.m_init.ex
  exact ⟨f, fd, ["self", "rule"], init_mk (g0 := g_m_init) Fu sc_m_init T.doc.cx (fun ρ => by simp [g_m_init, z_m_init]) (by decide +kernel) (fun B cdv A outer s H E hr =>
      pss_cons ((ds_expr (de_of (dp_call (fn_check_rule T) hr (by decide) (dpa_cons (dp_var 1) dpa_nil))))).ps (pss_cons (ps_fld (pv 0) (dp_var (m := .bas) 1).pe rfl) (pss_one (ps_fld (pv 0) (pe_lst (pa_cons (pe_ex0 (fun B => (dp_tup (dpa_cons (dp_tup dpa_nil) (dpa_cons dp_int (dpa_cons dp_int (dpa_cons (dp_tup dpa_nil) dpa_nil))))))) pa_nil)) rfl)))), bi, ⟨T.doc.mks, h1, h2, T.doc.kp⟩, T.doc.mg_⟩
def b_m_keep (a : Addr) (rl : D) : Rho → Option Out :=
    (seqF (setP 3 (nD (consA (lcD (itD (b2D (nD (consA (selfD a rl) (consA (varD .str 1) nilA)) F_played) (kD (.int 1)) ixD)) [4, 5] (bTup 2 (bCons (bName 4) (bCons (bName 5) bNil))) (tstD (b2D (varD .bas 4) (varD .bas 2) leD)) (varD .str 4)) nilA) tupleD))
    skipF)
def g_m_keep (a : Addr) (rl : D) : Rho → Option D :=
    (nD (consA (varD .bas 1) (consA (varD .bas 2) (consA (nD (consA (selfD a rl) (consA (varD .bas 1) (consA (varD .bas 2) nilA))) F_unsaved_at) (consA (varD .bas 3) nilA)))) tupD)
def F_m_keep : Addr → D → List D → List D → Option (D × List D) := kpF 5 b_m_keep g_m_keep
theorem fn_m_keep (T : Txt K mg ad) : MFn P w K mg base 3 ad.D "keep" F_m_keep := by
  obtain ⟨f, fd, Fu, bi, h1, h2, h3⟩ := T.doc.m_keep.ex
  exact mfn_of Fu bi h1 h2 h3 (keep_mk (b := b_m_keep) (g := g_m_keep) Fu sc_m_keep rfl rfl T.doc.cx (fun B a l rl sts cdv A outer s H E hr hD =>
      tm_cons (ds_setP (i := 3) sc_m_keep.nd rfl (by first | exact Or.inl rfl | exact Or.inr rfl) (dp_ty call_tuple_of n_tuple T.z_tuple boot_tuple (dpa_cons (dp_lc (own := [("moment", 4), ("reason", 5)]) rfl sc_m_keep.nd (dic_of (di_seq (dp_ix ix_seq o_ix (dp_call (fn_played T) hr (by decide) (dpa_cons (dp_rule hD (pv 0)) (dpa_cons (dp_var 1) dpa_nil))) dp_int))) (blkOk_by (own := [("moment", 4), ("reason", 5)]) (N := ["self", "edits", "time", "done", "moment", "reason"]) (sc := defScope st_m_keep) (by decide +kernel)) (by decide) (fun _ _ _ _ _ => (dg_tup rfl (dgs_cons (dg_name (i := 4) sc_m_keep.nd rfl (by first | exact Or.inl rfl | exact Or.inr rfl) (by first | exact .inl rfl | exact .inr rfl)) (dgs_cons (dg_name (i := 5) sc_m_keep.nd rfl (by first | exact Or.inl rfl | exact Or.inr rfl) (by first | exact .inl rfl | exact .inr rfl)) dgs_nil)))) (fun _ _ _ _ _ => (dts_one (dt_cmp (m := .bas) op_le o_cmp (dp_var 4) (dp_var 2) (nomark _)))) (fun _ _ _ _ _ => (dp_var 4))) dpa_nil))) (tm_nil (pss_one (ps_expr (pe_bm PySem.F.plainAttrs_list PySem.F.slot_list_append PySem.F.type_list_append mt_append (pe_fld (pv 0) rfl) (pa_cons (dp_tup (dpa_cons (dp_var 1) (dpa_cons (dp_var 2) (dpa_cons (dp_call (fn_unsaved_at T) hr (by decide) (dpa_cons (dp_rule hD (pv 0)) (dpa_cons (dp_var 1) (dpa_cons (dp_var 2) dpa_nil)))) (dpa_cons (dp_var 3) dpa_nil))))).pe pa_nil)))))))
def b_m_edit (a : Addr) (rl ls : D) : Rho → Option OutX :=
    (seqX (okF (asgF (toE (slD (selfD a ls) noO (soO (kD (.int 2))))) (bTup 2 (bCons (bName 2) (bCons (bName 3) bNil)))))
    (seqX (forX (toI (itD (varD .str 1))) (bName 4) (seqX (iteX (toT (notT (tstD (nD (consA (varD .bas 4) (consA (varD .bas 3) (consA (kD (.int 1000000)) nilA))) F_in_range)))) (raiX "InvalidTime") (okF skipF))
    (okF (setP 3 (varD .str 4)))))
    (seqX (iteX (toT (tstD (b2D (b2D (nD (consA (varD .bas 2) nilA) lenD) (nD (consA (varD .bas 1) nilA) lenD) addD) (selfD a (.int 60)) gtD))) (raiX "TooMany") (okF skipF))
    (okF skipF))))
def s_m_edit : Rho → Option (List D) := (consA (b2D (varD .bas 2) (varD .bas 1) addD) (consA (varD .bas 3) nilA))
def g_m_edit (a : Addr) (ls : D) : Rho → Option D :=
    (b2D (selfD a ls) (kD (.int 2)) ixD)
def F_m_edit : Addr → Addr → D → List D → List D → Option ResM := muVX (muFX 1 4 b_m_edit s_m_edit g_m_edit F_m_keep)
theorem fn_m_edit (T : Txt K mg ad) : MFnX P w K mg base 4 ad.D "edit" F_m_edit := by
  obtain ⟨f, fd, Fu, bi, h1, h2, h3⟩ := T.doc.m_edit.ex
  exact ⟨f, mutVX_mk (pre := b_m_edit) (gs := s_m_edit) (g := g_m_edit) Fu sc_m_edit bi rfl T.doc.cx (fun B a l rl sts ls cdv A outer s H E hr hD0 hl => have hD := hD0.nox;
      (tmx_cons (dsx_of (ds_asg (de_of (dp_slice (dp_last hD hl (pv 0)) do_none (do_some dp_int))) (dg_tup rfl (dgs_cons (dg_name (i := 2) sc_m_edit.nd rfl (by first | exact Or.inl rfl | exact Or.inr rfl) (by first | exact .inl rfl | exact .inr rfl)) (dgs_cons (dg_name (i := 3) sc_m_edit.nd rfl (by first | exact Or.inl rfl | exact Or.inr rfl) (by first | exact .inl rfl | exact .inr rfl)) dgs_nil)))))
      (tmx_cons (dsx_for (L2.passes_of rfl) rfl (die_of (di_seq (dp_var 1))) (dg_name (i := 4) sc_m_edit.nd rfl (by first | exact Or.inl rfl | exact Or.inr rfl) (by first | exact .inl rfl | exact .inr rfl)) (dsx_cons (dsx_if (det_of (dt_not (dt_val (m := .bas) (dp_call (fn_in_range T) hr (by decide) (dpa_cons (dp_var 4) (dpa_cons (dp_var 3) (dpa_cons (dp_glob (T.g_LAST.choose_spec) ⟨_, rfl⟩) dpa_nil))))))) (dsx_one (dsx_raise T.e_InvalidTime rfl (L2N.takes_of rfl rfl rfl rfl))) (dsx_all ds_nil))
      (dsx_all (ds_one (ds_setP (i := 3) sc_m_edit.nd rfl (by first | exact Or.inl rfl | exact Or.inr rfl) (dp_var 4))))))
      (tmx_cons (dsx_if (det_of (dt_cmp (m := .bas) op_gt o_cmp (dp_op op_addA o_add (dp_b call_len_seq n_len T.z_len PySem.boot_len (dpa_cons (dp_var 2) dpa_nil)) (dp_b call_len_seq n_len T.z_len PySem.boot_len (dpa_cons (dp_var 1) dpa_nil))) (dp_most hD (pv 0)) (nomark _))) (dsx_one (dsx_raise T.e_TooMany rfl (L2N.takes_of rfl rfl rfl rfl))) (dsx_all ds_nil))
      (tmx_nil (pss_cons (ps_expr (pe_keep T.doc.cx (fn_m_keep T) hr (by decide) (pv 0) (dpa_cons (dp_op op_addA o_add (dp_var 2) (dp_var 1)) (dpa_cons (dp_var 3) dpa_nil)))) (pss_one (ps_ret (pe_ex (g := g_m_edit a) (fun B l rl sts ls hD hl => (dp_ix ix_seq o_ix (dp_last hD hl (pv 0)) dp_int))))))))))), ⟨h1, h2, Fu.kp⟩, h3⟩
def b_m_call (a : Addr) (rl ls : D) : Rho → Option OutX :=
    (seqX (okF (asgF (toE (slD (selfD a ls) noO (soO (kD (.int 2))))) (bTup 2 (bCons (bName 2) (bCons (bName 3) bNil)))))
    (seqX (iteX (toT (notT (tstD (nD (consA (varD .bas 1) (consA (varD .bas 3) (consA (kD (.int 1000000)) nilA))) F_in_range)))) (raiX "InvalidTime") (okF skipF))
    (okF skipF)))
def s_m_call : Rho → Option (List D) := (consA (varD .bas 2) (consA (varD .bas 1) nilA))
def g_m_call (a : Addr) (ls : D) : Rho → Option D :=
    (b2D (selfD a ls) (kD (.int 2)) ixD)
def F_m_call : Addr → Addr → D → List D → List D → Option ResM := muFX 1 3 b_m_call s_m_call g_m_call F_m_keep
theorem fn_m_call (T : Txt K mg ad) : MFnX P w K mg base 4 ad.D "__call__" F_m_call := by
  obtain ⟨f, fd, Fu, bi, h1, h2, h3⟩ := T.doc.m_call.ex
  exact ⟨f, ((mutX_mk (pre := b_m_call) (gs := s_m_call) (g := g_m_call) Fu sc_m_call rfl rfl T.doc.cx (fun B a l rl sts ls cdv A outer s H E hr hD0 hl => have hD := hD0.nox;
      (tmx_cons (dsx_of (ds_asg (de_of (dp_slice (dp_last hD hl (pv 0)) do_none (do_some dp_int))) (dg_tup rfl (dgs_cons (dg_name (i := 2) sc_m_call.nd rfl (by first | exact Or.inl rfl | exact Or.inr rfl) (by first | exact .inl rfl | exact .inr rfl)) (dgs_cons (dg_name (i := 3) sc_m_call.nd rfl (by first | exact Or.inl rfl | exact Or.inr rfl) (by first | exact .inl rfl | exact .inr rfl)) dgs_nil)))))
      (tmx_cons (dsx_if (det_of (dt_not (dt_val (m := .bas) (dp_call (fn_in_range T) hr (by decide) (dpa_cons (dp_var 1) (dpa_cons (dp_var 3) (dpa_cons (dp_glob (T.g_LAST.choose_spec) ⟨_, rfl⟩) dpa_nil))))))) (dsx_one (dsx_raise T.e_InvalidTime rfl (L2N.takes_of rfl rfl rfl rfl))) (dsx_all ds_nil))
      (tmx_nil (pss_cons (ps_expr (pe_keep T.doc.cx (fn_m_keep T) hr (by decide) (pv 0) (dpa_cons (dp_var 2) (dpa_cons (dp_var 1) dpa_nil)))) (pss_one (ps_ret (pe_ex (g := g_m_call a) (fun B l rl sts ls hD hl => (dp_ix ix_seq o_ix (dp_last hD hl (pv 0)) dp_int))))))))))).raw bi .nil).imp fun vs H Q E h => by rw [List.append_nil]; exact h, ⟨h1, h2, Fu.kp⟩, h3⟩
def b_m_undo (a : Addr) (rl : D) (sts : List D) : Rho → Option OutX :=
    (seqX (iteX (toT (tstD (b2D (nD (consA (selfD a (.list sts)) nilA) lenD) (kD (.int 1)) eqD))) (raiX "NothingToUndo") (okF skipF))
    (okF skipF))
def F_m_undo : Addr → Addr → D → List D → List D → Option ResM := undoF b_m_undo
theorem fn_m_undo (T : Txt K mg ad) : MFnX P w K mg base 1 ad.D "undo" F_m_undo := by
  obtain ⟨f, fd, Fu, bi, h1, h2, h3⟩ := T.doc.m_undo.ex
  exact ⟨f, ((undo_mk (pre := b_m_undo) Fu sc_m_undo T.doc.cx (fun B a l rl sts cdv A outer s H E hr hD0 => have hD := hD0.nox;
      tmx_cons (dsx_if (det_of (dt_cmp (m := .bas) (op_eqD hr.units) o_eq (dp_b call_len_seq n_len T.z_len PySem.boot_len (dpa_cons (dp_states hD (pv 0)) dpa_nil)) dp_int (nomark _))) (dsx_one (dsx_raise T.e_NothingToUndo rfl (L2N.takes_of rfl rfl rfl rfl))) (dsx_all ds_nil)) (tmx_nil (pss_one (ps_expr (pe_bm0 PySem.F.plainAttrs_list PySem.F.slot_list_pop PySem.F.type_list_pop mt_pop (pe_fld (pv 0) rfl))))))).raw bi .nil).imp fun vs H Q E h => by rw [List.append_nil]; exact h, ⟨h1, h2, Fu.kp⟩, h3⟩
def b_m_edits (a : Addr) (rl ls : D) : Rho → Option Out :=
    (retP (b2D (selfD a ls) (kD (.int 0)) ixD))
def F_m_edits : Addr → D → List D → List D → Option D := rdR 0 0 b_m_edits
theorem fn_m_edits (T : Txt K mg ad) : PFnR P w K mg base 1 ad.D "edits" F_m_edits := by
  obtain ⟨p, f, fd, Fu, bi, pr⟩ := T.doc.m_edits.ex
  exact ⟨p, f, fd, _, rdmR_mk (b := b_m_edits) Fu sc_m_edits rfl rfl T.doc.cx (fun B a l rl sts ls cdv A outer s H E hr hD hl =>
      (ds_one (ds_ret (dp_ix ix_seq o_ix (dp_last hD hl (pv 0)) dp_int)))), bi, pr⟩
def b_m_time (a : Addr) (rl ls : D) : Rho → Option Out :=
    (retP (b2D (selfD a ls) (kD (.int 1)) ixD))
def F_m_time : Addr → D → List D → List D → Option D := rdR 0 0 b_m_time
theorem fn_m_time (T : Txt K mg ad) : PFnR P w K mg base 1 ad.D "time" F_m_time := by
  obtain ⟨p, f, fd, Fu, bi, pr⟩ := T.doc.m_time.ex
  exact ⟨p, f, fd, _, rdmR_mk (b := b_m_time) Fu sc_m_time rfl rfl T.doc.cx (fun B a l rl sts ls cdv A outer s H E hr hD hl =>
      (ds_one (ds_ret (dp_ix ix_seq o_ix (dp_last hD hl (pv 0)) dp_int)))), bi, pr⟩
def b_m_unsaved (a : Addr) (rl ls : D) : Rho → Option Out :=
    (retP (b2D (selfD a ls) (kD (.int 2)) ixD))
def F_m_unsaved : Addr → D → List D → List D → Option D := rdR 0 0 b_m_unsaved
theorem fn_m_unsaved (T : Txt K mg ad) : PFnR P w K mg base 1 ad.D "unsaved" F_m_unsaved := by
  obtain ⟨p, f, fd, Fu, bi, pr⟩ := T.doc.m_unsaved.ex
  exact ⟨p, f, fd, _, rdmR_mk (b := b_m_unsaved) Fu sc_m_unsaved rfl rfl T.doc.cx (fun B a l rl sts ls cdv A outer s H E hr hD hl =>
      (ds_one (ds_ret (dp_ix ix_seq o_ix (dp_last hD hl (pv 0)) dp_int)))), bi, pr⟩
def b_m_saved (a : Addr) (rl ls : D) : Rho → Option Out :=
    (retP (b2D (selfD a ls) (kD (.int 3)) ixD))
def F_m_saved : Addr → D → List D → List D → Option D := rdR 0 0 b_m_saved
theorem fn_m_saved (T : Txt K mg ad) : PFnR P w K mg base 1 ad.D "saved" F_m_saved := by
  obtain ⟨p, f, fd, Fu, bi, pr⟩ := T.doc.m_saved.ex
  exact ⟨p, f, fd, _, rdmR_mk (b := b_m_saved) Fu sc_m_saved rfl rfl T.doc.cx (fun B a l rl sts ls cdv A outer s H E hr hD hl =>
      (ds_one (ds_ret (dp_ix ix_seq o_ix (dp_last hD hl (pv 0)) dp_int)))), bi, pr⟩
def b_m_contains (a : Addr) (rl ls : D) : Rho → Option Out :=
    (retP (andV (nD (consA (varD .bas 1) (consA (kD (.int 0)) (consA (kD (.int 1000000)) nilA))) F_in_range) (b2D (varD .bas 1) (b2D (selfD a ls) (kD (.int 3)) ixD) inTD)))
def F_m_contains : Addr → D → List D → List D → Option D := rdR 1 1 b_m_contains
theorem fn_m_contains (T : Txt K mg ad) : MFnR P w K mg base 2 ad.D "__contains__" F_m_contains := by
  obtain ⟨f, fd, Fu, bi, h1, h2, h3⟩ := T.doc.m_contains.ex
  exact ⟨f, ((rdmR_mk (b := b_m_contains) Fu sc_m_contains rfl rfl T.doc.cx (fun B a l rl sts ls cdv A outer s H E hr hD hl =>
      (ds_one (ds_ret (dp_and (dp_call (fn_in_range T) hr (by decide) (dpa_cons (dp_var 1) (dpa_cons dp_int (dpa_cons (dp_glob (T.g_LAST.choose_spec) ⟨_, rfl⟩) dpa_nil)))) (dp_one (dp_cmp op_in_seq o_inT (dp_var 1) (dp_ix ix_seq o_ix (dp_last hD hl (pv 0)) dp_int) (by rfl)))))))).raw bi .nil).imp fun vs H Q E h => by rw [List.append_nil]; exact h, h1, h2⟩
def b_m_bool (a : Addr) (rl ls : D) : Rho → Option Out :=
    (retP (nD (consA (b2D (b2D (selfD a ls) (kD (.int 2)) ixD) (kD (.int 0)) gtD) nilA) boolBD))
def F_m_bool : Addr → D → List D → List D → Option D := rdR 0 0 b_m_bool
theorem fn_m_bool (T : Txt K mg ad) : MFnR P w K mg base 1 ad.D "__bool__" F_m_bool := by
  obtain ⟨f, fd, Fu, bi, h1, h2, h3⟩ := T.doc.m_bool.ex
  exact ⟨f, ((rdmR_mk (b := b_m_bool) Fu sc_m_bool rfl rfl T.doc.cx (fun B a l rl sts ls cdv A outer s H E hr hD hl =>
      (ds_one (ds_ret (dp_ty call_bool1 n_boolB T.z_bool boot_bool (dpa_cons (dp_cmp op_gt o_cmp (dp_ix ix_seq o_ix (dp_last hD hl (pv 0)) dp_int) dp_int (nomark _)) dpa_nil)))))).raw bi .nil).imp fun vs H Q E h => by rw [List.append_nil]; exact h, h1, h2⟩
def b_m_len (a : Addr) (rl ls : D) : Rho → Option Out :=
    (retP (nD (consA (b2D (selfD a ls) (kD (.int 0)) ixD) nilA) lenD))
def F_m_len : Addr → D → List D → List D → Option D := rdR 0 0 b_m_len
theorem fn_m_len (T : Txt K mg ad) : MFnR P w K mg base 1 ad.D "__len__" F_m_len := by
  obtain ⟨f, fd, Fu, bi, h1, h2, h3⟩ := T.doc.m_len.ex
  exact ⟨f, ((rdmR_mk (b := b_m_len) Fu sc_m_len rfl rfl T.doc.cx (fun B a l rl sts ls cdv A outer s H E hr hD hl =>
      (ds_one (ds_ret (dp_b call_len_seq n_len T.z_len PySem.boot_len (dpa_cons (dp_ix ix_seq o_ix (dp_last hD hl (pv 0)) dp_int) dpa_nil)))))).raw bi .nil).imp fun vs H Q E h => by rw [List.append_nil]; exact h, h1, h2⟩
def bA_m_eq (a : Addr) (rl ls : D) (b : Addr) (rl2 ls2 : D) : Rho → Option Out :=
    (seqF (iteF (toT (notT (tstD (selfK 1 (.ref b) (.bool true))))) (retP (kD (.bool false))) skipF)
    (retP (andV (b2D (selfK 0 (.ref a) rl) (selfK 1 (.ref b) rl2) eqD) (b2D (slD (selfK 0 (.ref a) ls) noO (soO (kD (.int 2)))) (slD (selfK 1 (.ref b) ls2) noO (soO (kD (.int 2)))) eqD))))
def bB_m_eq (v : V) : Rho → Option Out :=
    (seqF (iteF (toT (notT (tstD (selfK 1 v (.bool false))))) (retP (kD (.bool false))) skipF)
    neverF)
def Feq (rl ls rl2 ls2 : D) : Option Bool := (andV (b2D (kD rl) (kD rl2) eqD) (b2D (slD (kD ls) noO (soO (kD (.int 2)))) (slD (kD ls2) noO (soO (kD (.int 2)))) eqD) []).bind asBool
theorem Feq_A (a : Addr) (rl ls : D) (b : Addr) (rl2 ls2 : D) (c : Bool) (h : Feq rl ls rl2 ls2 = some c) : bA_m_eq a rl ls b rl2 ls2 [.raw (.ref a), .raw (.ref b)] = some (.rt (.bool c) [.raw (.ref a), .raw (.ref b)]) := by
  unfold Feq at h
  have h2 := tst_bool (h := andV (b2D (kD rl) (kD rl2) eqD) (b2D (slD (kD ls) noO (soO (kD (.int 2)))) (slD (kD ls2) noO (soO (kD (.int 2)))) eqD)) h
  unfold bA_m_eq
  simp [-eqD] at h2 ⊢
  simp [-eqD, h2]
theorem eq_fn (T : Txt K mg ad) : EqFn P w K mg base 1 ad.D Feq := by
  obtain ⟨f, fd, Fu, bi, h1, h2, h3⟩ := T.doc.m_eq.ex
  exact ⟨f, ((eqm_mk (bA := bA_m_eq) (bB := bB_m_eq) (Fe := Feq) Fu sc_m_eq T.doc.cx (fun B a l rl sts ls b l2 rl2 sts2 ls2 cdv A outer s H E hr hD hl hD2 hl2 =>
      (ds_cons (ds_if (det_of (dt_not (dt_val (m := .bas) (dp_isdoc (k := 1) hD2 T.doc.ci T.z_isinstance (pv 1))))) (ds_one (ds_ret dp_bool)) ds_nil)
      (ds_one (ds_ret (dp_and (dp_cmp (op_eqD hr.units) o_eq (dp_ruleK (k := 0) hD (pv 0)) (dp_ruleK (k := 1) hD2 (pv 1)) (nomark _)) (dp_one (dp_cmp (op_eqD hr.units) o_eq (dp_slice (dp_lastK (k := 0) hD hl (pv 0)) do_none (do_some dp_int)) (dp_slice (dp_lastK (k := 1) hD2 hl2 (pv 1)) do_none (do_some dp_int)) (nomark _))))))))
      (fun B v ds cdv A outer s H E hr hT nR => (ds_cons (ds_if (det_of (dt_not (dt_val (m := .bas) (dp_isntdoc (k := 1) hT nR T.doc.ci T.z_isinstance (pv 1))))) (ds_one (ds_ret dp_bool)) ds_nil) (ds_one ds_never)))
      Feq_A (fun a v => by simp [bB_m_eq])).raw bi .nil).imp fun vs H Q E h => by rw [List.append_nil]; exact h, h1, h2⟩
theorem contains_bool : ∀ (a : Addr) (rl : D) (sts ds : List D) (d : D), F_m_contains a rl sts ds = some d → ∃ c, d = .bool c := by
  intro a rl sts ds d h
  unfold F_m_contains rdR at h
  obtain ⟨ls, _, h2⟩ := bind_some h
  split at h2
  · obtain ⟨o, e1, e2⟩ := bind_some h2
    unfold b_m_contains retP at e1
    obtain ⟨z, e3, e4⟩ := bind_some e1
    cases e4
    cases e2
    unfold andV at e3
    obtain ⟨z1, _, e6⟩ := bind_some e3
    obtain ⟨c, _, e8⟩ := bind_some e6
    split at e8
    · unfold b2D at e8
      obtain ⟨z2, _, e9⟩ := bind_some e8
      obtain ⟨z3, _, e10⟩ := bind_some e9
      unfold inTD at e10
      split at e10
      · obtain ⟨ns, _, e11⟩ := bind_some e10
        cases e11
        exact ⟨_, rfl⟩
      · cases e10
    · cases e8
      exact ⟨_, rfl⟩
  · cases h2
theorem bool_bool : ∀ (a : Addr) (rl : D) (sts : List D) (d : D), F_m_bool a rl sts [] = some d → ∃ c, d = .bool c := by
  intro a rl sts d h
  unfold F_m_bool rdR at h
  obtain ⟨ls, _, h2⟩ := bind_some h
  split at h2
  · obtain ⟨o, e1, e2⟩ := bind_some h2
    unfold b_m_bool retP at e1
    obtain ⟨z, e3, e4⟩ := bind_some e1
    cases e4
    cases e2
    unfold nD at e3
    obtain ⟨z1, _, e6⟩ := bind_some e3
    unfold boolBD at e6
    split at e6
    · cases e6
      exact ⟨_, rfl⟩
    · cases e6
  · cases h2
def lenG : Addr → D → List D → List D → Option D := fun a rl sts ds => (F_m_len a rl sts ds).bind fun d => match d with
  | .int n => if 0 ≤ n ∧ n ≤ 100 then some (.int n) else none
  | _ => none
theorem lenG_le : ∀ (a : Addr) (rl : D) (sts ds : List D) (d : D), lenG a rl sts ds = some d → F_m_len a rl sts ds = some d := by
  intro a rl sts ds d h
  unfold lenG at h
  obtain ⟨z, e1, e2⟩ := bind_some h
  split at e2
  · split at e2
    · cases e2
      exact e1
    · cases e2
  · cases e2
theorem lenG_int : ∀ (a : Addr) (rl : D) (sts : List D) (d : D), lenG a rl sts [] = some d → ∃ n : Int, d = .int n ∧ 0 ≤ n ∧ n < 2 ^ 63 := by
  intro a rl sts d h
  unfold lenG at h
  obtain ⟨z, e1, e2⟩ := bind_some h
  split at e2
  · split at e2
    · next n hn =>
      cases e2
      exact ⟨n, rfl, hn.1, by omega⟩
    · cases e2
  · cases e2
end
end
end My

set_option autoImplicit false
namespace My
open PySem PySem.Spec
open PyProof.Rows hiding St
open L2 DL
theorem in_range_F (v lo hi : Int) : F_in_range [.int v, .int lo, .int hi] = some (.bool (decide (lo ≤ v ∧ v ≤ hi))) := by
  unfold F_in_range b_in_range
  by_cases h : lo ≤ v <;> simp [h]
abbrev ruleD (c s : Int) : D := .tuple [.int c, .int s]
theorem is_rule_F (c s : Int) (h : 1 ≤ c ∧ c ≤ 20 ∧ 1 ≤ s ∧ s ≤ 1000) : F_is_rule [ruleD c s] = some (.bool true) := by
  unfold F_is_rule b_is_rule ruleD
  simp [in_range_F, h.1, h.2.1, h.2.2.1, h.2.2.2]
theorem check_rule_F (c s : Int) (h : 1 ≤ c ∧ c ≤ 20 ∧ 1 ≤ s ∧ s ≤ 1000) : F_check_rule [ruleD c s] = some .none := by
  unfold F_check_rule b_check_rule
  simp [is_rule_F c s h]

theorem take_F (n m : Int) (bs : List D) (hb : Bag n bs) (hn : n ≤ 10 ^ 12) (h0 : 0 < m) (h1 : m < 2 ^ 62) : ∃ r bs', F_law_take bs [.int m] = some (.int r, bs') ∧ 0 ≤ r ∧ r < m ∧ Bag (n + 1) bs' := by
  obtain ⟨a, b, c, rfl, hb0, hb1, hc0, hc1⟩ := hb
  unfold F_law_take b_law_take
  by_cases ha : 0 < a
  · refine ⟨a % m, [.int (a / m), .int b, .int c], ?_, Int.emod_nonneg _ (by omega), Int.emod_lt_of_pos _ h0, a / m, b, c, rfl, hb0, hb1, hc0, by omega⟩
    simp [ha, h0, show m < 18446744073709551616 by omega]
  · have e1 : 0 ≤ (b + 1000003 * (c + 1)) % 2305843009213693951 := Int.emod_nonneg _ (by decide)
    have e2 : (b + 1000003 * (c + 1)) % 2305843009213693951 < 2305843009213693951 := Int.emod_lt_of_pos _ (by decide)
    generalize hx : (b + 1000003 * (c + 1)) % 2305843009213693951 = x at e1 e2
    have e3 : 0 ≤ (x * x + 7919 * (c + 1) ^ 2 + 5) % 2305843009213693951 := Int.emod_nonneg _ (by decide)
    have e4 : (x * x + 7919 * (c + 1) ^ 2 + 5) % 2305843009213693951 < 2305843009213693951 := Int.emod_lt_of_pos _ (by decide)
    generalize hy : (x * x + 7919 * (c + 1) ^ 2 + 5) % 2305843009213693951 = y at e3 e4
    refine ⟨y ^ 3 % 2305843009213693951 / 13 % m, [.int a, .int b, .int (c + 1)], ?_, Int.emod_nonneg _ (by omega), Int.emod_lt_of_pos _ h0, a, b, c + 1, rfl, hb0, hb1, by omega, by omega⟩
    have g1 : (c + 1).natAbs < 18446744073709551616 := by omega
    have g2 : y.natAbs < 18446744073709551616 := by omega
    have g3 : -18446744073709551616 < x ∧ x < 18446744073709551616 := by omega
    simp [ha, h0, hx, hy, g1, g2, g3]

theorem same_int (k : Nat) (i : Int) : F_law_same (k + 1) [.int i, .int i] = some (.bool true) := by
  unfold F_law_same b_law_same
  simp
theorem same_bool (k : Nat) (i : Bool) : F_law_same (k + 1) [.bool i, .bool i] = some (.bool true) := by
  unfold F_law_same b_law_same
  simp
theorem same_none (k : Nat) : F_law_same (k + 1) [.none, .none] = some (.bool true) := by
  unfold F_law_same b_law_same
  simp
theorem zip_self : ∀ ds : List D, zipL ds ds = ds.map fun d => .tuple [d, d]
  | [] => rfl
  | d :: ds => by simp [zipL, zip_self ds]
theorem bools_true : ∀ ds : List D, boolsOf (ds.map fun _ => .bool true) = some (ds.map fun _ => true)
  | [] => rfl
  | d :: ds => by simp [bools_true ds]
theorem all_true : ∀ ds : List D, (ds.map fun _ => true).all id = true
  | [] => rfl
  | d :: ds => by simp
theorem same_comp (k : Nat) (ds : List D) (x y s : Sl) (h : ∀ d ∈ ds, F_law_same k [d, d] = some (.bool true)) :
    compL (bTup 2 (bCons (bName 2) (bCons (bName 3) bNil))) yesT (nD (consA (varD .str 2) (consA (varD .str 3) nilA)) (F_law_same k)) [x, y, .nil, .nil] (zipL ds ds) = some (ds.map fun _ => .bool true) := by
  rw [zip_self, compL_map (fun _ => .bool true)]
  · rw [List.map_map]; rfl
  · intro d hd
    obtain ⟨e, he, rfl⟩ := List.mem_map.mp hd
    exact ⟨_, by simp; rfl, by simp [h e he]⟩
theorem same_list (k : Nat) (ds : List D) (hl : ds.length ≤ 100000) (h : ∀ d ∈ ds, F_law_same k [d, d] = some (.bool true)) : F_law_same (k + 1) [.list ds, .list ds] = some (.bool true) := by
  have e := same_comp k ds (.dat (.list ds)) (.dat (.list ds)) .nil h
  unfold F_law_same b_law_same
  simp [zipL_len, hl, wipeR] at e ⊢
  simp [e, bools_true]
theorem same_tup (k : Nat) (ds : List D) (hl : ds.length ≤ 100000) (h : ∀ d ∈ ds, F_law_same k [d, d] = some (.bool true)) : F_law_same (k + 1) [.tuple ds, .tuple ds] = some (.bool true) := by
  have e := same_comp k ds (.dat (.tuple ds)) (.dat (.tuple ds)) .nil h
  unfold F_law_same b_law_same
  simp [zipL_len, hl, wipeR] at e ⊢
  simp [e, bools_true]
theorem same_eq (k : Nat) (i j : Int) (h : i = j) : F_law_same (k + 1) [.int i, .int j] = some (.bool true) := by
  subst h
  exact same_int k i

/-! ## the machine -/
def stN (c s p : Int) (n : Nat) (t : Int) : Nat := if c ≤ ((if 0 < n ∧ p + s ≤ t then 0 else n : Nat) : Int) + 1 then 0 else (if 0 < n ∧ p + s ≤ t then 0 else n) + 1
def stD (c s p : Int) (n : Nat) (t : Int) : List (Int × Bool) := (if 0 < n ∧ p + s ≤ t then [(p + s, false)] else []) ++ (if c ≤ ((if 0 < n ∧ p + s ≤ t then 0 else n : Nat) : Int) + 1 then [(t, true)] else [])
def rowsM (c s : Int) : Int → Nat → List Int → List Nat
  | _, _, [] => []
  | p, n, t :: ts => stN c s p n t :: rowsM c s t (stN c s p n t) ts
def doneM (c s : Int) : Int → Nat → List Int → List (Int × Bool)
  | p, n, [] => if 0 < n then [(p + s, false)] else []
  | p, n, t :: ts => stD c s p n t ++ doneM c s t (stN c s p n t) ts
def doneL (c s : Int) : Int → Nat → List Int → List (Int × Bool)
  | _, _, [] => []
  | p, n, t :: ts => stD c s p n t ++ doneL c s t (stN c s p n t) ts
def endN (c s : Int) : Int → Nat → List Int → Nat
  | _, n, [] => n
  | p, n, t :: ts => endN c s t (stN c s p n t) ts
def endP : Int → List Int → Int
  | p, [] => p
  | _, t :: ts => endP t ts
theorem doneM_eq (c s : Int) : ∀ (ts : List Int) (p : Int) (n : Nat), doneM c s p n ts = doneL c s p n ts ++ (if 0 < endN c s p n ts then [(endP p ts + s, false)] else [])
  | [], p, n => rfl
  | t :: ts, p, n => by
    show stD c s p n t ++ doneM c s t (stN c s p n t) ts = (stD c s p n t ++ doneL c s t (stN c s p n t) ts) ++ _
    rw [doneM_eq c s ts, List.append_assoc]
    rfl
def dnD : Int × Bool → D
  | (t, b) => .tuple [.int t, .str (if b then "count" else "idle")]
def wl (i n : Nat) : List Int := (List.range n).map fun k => ((i - n + k : Nat) : Int)
def rowsD (i : Nat) : List Nat → List D
  | [] => []
  | n :: ns => .list (intsD (wl (i + 1) n)) :: rowsD (i + 1) ns
theorem stD_len (c s p : Int) (n : Nat) (t : Int) : (stD c s p n t).length ≤ 2 := by
  unfold stD
  rw [List.length_append]
  split <;> split <;> simp
theorem doneL_len (c s : Int) : ∀ (ts : List Int) (p : Int) (n : Nat), (doneL c s p n ts).length ≤ 2 * ts.length
  | [], p, n => by simp [doneL]
  | t :: ts, p, n => by
    have h1 := stD_len c s p n t
    have h2 := doneL_len c s ts t (stN c s p n t)
    simp only [doneL, List.length_append, List.length_cons]
    omega
theorem rowsM_len (c s : Int) : ∀ (ts : List Int) (p : Int) (n : Nat), (rowsM c s p n ts).length = ts.length
  | [], p, n => rfl
  | t :: ts, p, n => by simp [rowsM, rowsM_len c s ts]
theorem stN_le (c s p : Int) (n : Nat) (t : Int) : stN c s p n t ≤ n + 1 := by
  unfold stN
  split <;> split <;> omega
theorem wl_zero (i : Nat) : wl i 0 = [] := rfl
theorem wl_len (i n : Nat) : (wl i n).length = n := by simp [wl]
theorem wl_snoc (i n : Nat) (h : n ≤ i) : wl i n ++ [(i : Int)] = wl (i + 1) (n + 1) := by
  unfold wl
  rw [List.range_succ, List.map_append]
  congr 1
  · apply List.map_congr_left
    intro k _
    congr 2
    omega
  · simp only [List.map_cons, List.map_nil]
    congr 2
    omega
theorem wl_last (i n : Nat) (h : n ≤ i) (hn : 0 < n) : (intsD (wl i n)).getLast? = some (.int ((i - 1 : Nat) : Int)) := by
  obtain ⟨m, rfl⟩ : ∃ m, n = m + 1 := ⟨n - 1, by omega⟩
  obtain ⟨j, rfl⟩ : ∃ j, i = j + 1 := ⟨i - 1, by omega⟩
  rw [← wl_snoc j m (by omega), intsD_app]
  simp
theorem wl_nil (i n : Nat) : PyData.eqvAll (intsD (wl i n)) [] = decide (n = 0) := by
  rw [eqvAll_nil_iff]
  cases n with
  | zero => rfl
  | succ n =>
    have := wl_len i (n + 1)
    cases h : wl i (n + 1) with
    | nil => rw [h] at this; cases this
    | cons a b => simp
theorem log_prev (pre ts : List Int) (h : pre ≠ []) : (intsD (pre ++ ts))[pre.length - 1]? = some (.int (endP 0 pre)) := by
  have : ∀ (pre : List Int) (p : Int), pre ≠ [] → (pre ++ ts)[pre.length - 1]? = some (endP p pre) := by
    intro pre
    induction pre with
    | nil => intro p h; exact absurd rfl h
    | cons a pre ih =>
      intro p _
      cases pre with
      | nil => simp [endP]
      | cons b pre =>
        have := ih a (by simp)
        simpa [endP] using this
  rw [intsD_get, this pre 0 h]
  rfl
theorem endP_snoc (p t : Int) : ∀ pre : List Int, endP p (pre ++ [t]) = t
  | [] => rfl
  | a :: pre => by
    show endP a (pre ++ [t]) = t
    exact endP_snoc a t pre
theorem endN_le (c s : Int) : ∀ (ts : List Int) (p : Int) (n : Nat), endN c s p n ts ≤ n + ts.length
  | [], p, n => Nat.le_refl _
  | t :: ts, p, n => by
    have h1 := endN_le c s ts t (stN c s p n t)
    have h2 := stN_le c s p n t
    simp only [endN, List.length_cons]
    omega

theorem play_step (c s : Int) (log pre ts : List Int) (t : Int) (n : Nat) (rows done : List D) (hlog : log = pre ++ t :: ts) (hn : n ≤ pre.length) (hr : rows.length + 1 ≤ 100000) (hd : done.length + 2 ≤ 100000) (hq : pre.length + 1 ≤ 100000) :
    l_law_play_1 [.dat (ruleD c s), .dat (.tuple (intsD log)), .dat (.int c), .dat (.int s), .dat (.list (intsD (wl pre.length n))), .own rows, .own done, .dat (.int pre.length)] =
      some (.nx [.dat (ruleD c s), .dat (.tuple (intsD log)), .dat (.int c), .dat (.int s), .dat (.list (intsD (wl (pre.length + 1) (stN c s (endP 0 pre) n t)))), .own (rows ++ [.list (intsD (wl (pre.length + 1) (stN c s (endP 0 pre) n t)))]), .own (done ++ (stD c s (endP 0 pre) n t).map dnD), .dat (.int pre.length)]) := by
  have ht : (intsD log)[pre.length]? = some (.int t) := by
    rw [hlog, intsD_get]; simp
  unfold l_law_play_1
  have hsn := fun m (h : m ≤ pre.length) => wl_snoc pre.length m h
  have hs0 := hsn 0 (Nat.zero_le _)
  rw [wl_zero, List.nil_append] at hs0
  have hs1 := hsn n hn
  have e0 : [PyData.int (pre.length : Int)] = intsD (wl (pre.length + 1) 1) := by rw [← hs0]; rfl
  have e1 : intsD (wl pre.length n) ++ [PyData.int (pre.length : Int)] = intsD (wl (pre.length + 1) (n + 1)) := by rw [← hs1, intsD_app]; rfl
  have z0 : ∀ i, intsD (wl i 0) = [] := fun i => rfl
  have g1 : done.length < 100000 := by omega
  have g2 : rows.length < 100000 := by omega
  have g3 : done.length + 1 < 100000 := by omega
  have g4 : n + 1 ≤ 100000 := by omega
  by_cases h0 : 0 < n
  · have hp : pre ≠ [] := by intro z; rw [z] at hn; simp at hn; omega
    have hpre : (intsD log)[pre.length - 1]? = some (.int (endP 0 pre)) := by rw [hlog]; exact log_prev pre (t :: ts) hp
    have hl : (intsD (wl pre.length n)).getLast? = some (.int ((pre.length - 1 : Nat) : Int)) := wl_last _ _ hn h0
    by_cases h1 : endP 0 pre + s ≤ t
    · have h01 : 0 < n ∧ endP 0 pre + s ≤ t := ⟨h0, h1⟩
      by_cases h2 : c ≤ 1
      · simp [stN, stD, wl_nil, h0, Nat.ne_of_gt h0, hl, hpre, ht, h1, h2, dnD, e0, wl_len, z0, g1, g2, g3]
      · simp [stN, stD, wl_nil, h0, Nat.ne_of_gt h0, hl, hpre, ht, h1, h2, dnD, e0, wl_len, z0, g1, g2, g3]
    · by_cases h2 : c ≤ (n : Int) + 1
      · simp [stN, stD, wl_nil, h0, Nat.ne_of_gt h0, hl, hpre, ht, h1, h2, dnD, e1, wl_len, z0, g1, g2, g3, g4]
      · simp [stN, stD, wl_nil, h0, Nat.ne_of_gt h0, hl, hpre, ht, h1, h2, dnD, e1, wl_len, z0, g1, g2, g3, g4]
  · have h0' : n = 0 := by omega
    subst h0'
    by_cases h2 : c ≤ 1
    · simp [stN, stD, ht, h2, dnD, e0, wl_len, z0, g1, g2, g3]
    · simp [stN, stD, ht, h2, dnD, e0, wl_len, z0, g1, g2, g3]
theorem play_loop (c s : Int) (log : List Int) (hlog : log.length ≤ 40000) : ∀ (ts pre : List Int) (n : Nat) (rows done : List D) (x : Sl), log = pre ++ ts → n ≤ pre.length → rows.length + ts.length ≤ 100000 → done.length + 2 * ts.length ≤ 100000 →
    ∃ x', forL (bName 7) l_law_play_1 (rngL pre.length ts.length) [.dat (ruleD c s), .dat (.tuple (intsD log)), .dat (.int c), .dat (.int s), .dat (.list (intsD (wl pre.length n))), .own rows, .own done, x] =
      some (.nx [.dat (ruleD c s), .dat (.tuple (intsD log)), .dat (.int c), .dat (.int s), .dat (.list (intsD (wl log.length (endN c s (endP 0 pre) n ts)))), .own (rows ++ rowsD pre.length (rowsM c s (endP 0 pre) n ts)), .own (done ++ (doneL c s (endP 0 pre) n ts).map dnD), x'])
  | [], pre, n, rows, done, x, hl, hn, hr, hd => by
    rw [List.append_nil] at hl
    subst hl
    refine ⟨x, ?_⟩
    simp [rngL, rowsM, doneL, endN, rowsD]
  | t :: ts, pre, n, rows, done, x, hl, hn, hr, hd => by
    simp only [List.length_cons] at hr hd
    have hpl : pre.length + (ts.length + 1) = log.length := by rw [hl]; simp
    have st := play_step c s log pre ts t n rows done hl hn (by omega) (by omega) (by omega)
    have hsd := stD_len c s (endP 0 pre) n t
    have hsn := stN_le c s (endP 0 pre) n t
    obtain ⟨x', ih⟩ := play_loop c s log hlog ts (pre ++ [t]) (stN c s (endP 0 pre) n t) (rows ++ [.list (intsD (wl (pre.length + 1) (stN c s (endP 0 pre) n t)))]) (done ++ (stD c s (endP 0 pre) n t).map dnD) (.dat (.int pre.length))
      (by rw [hl]; simp) (by rw [List.length_append]; simp; omega) (by rw [List.length_append]; simp; omega) (by rw [List.length_append, List.length_map]; omega)
    rw [endP_snoc, List.length_append, List.length_singleton] at ih
    refine ⟨x', ?_⟩
    rw [List.length_cons, rngL_succ]
    refine (forL_cons (ρ1 := [.dat (ruleD c s), .dat (.tuple (intsD log)), .dat (.int c), .dat (.int s), .dat (.list (intsD (wl pre.length n))), .own rows, .own done, .dat (.int pre.length)]) rfl st).trans ?_
    refine ih.trans ?_
    simp [rowsM, doneL, endN, rowsD, List.append_assoc]
theorem play_F (c s : Int) (log : List Int) (hlog : log.length ≤ 40000) : F_law_play [ruleD c s, .tuple (intsD log)] = some (.tuple [.list (rowsD 0 (rowsM c s 0 0 log)), .list ((doneM c s 0 0 log).map dnD)]) := by
  obtain ⟨x', e⟩ := play_loop c s log hlog log [] 0 [] [] .nil rfl (Nat.zero_le _) (by simp; omega) (by simp; omega)
  simp only [List.length_nil, List.nil_append, endP] at e
  have hL := endN_le c s log 0 0
  have hd := doneL_len c s log 0 0
  have g1 : (doneL c s 0 0 log).length < 100000 := by omega
  unfold F_law_play b_law_play
  have hlen := rng1_nat log.length (by omega)
  have wz : intsD (wl 0 0) = [] := rfl
  have cz : ((0 : Nat) : Int) = 0 := rfl
  rw [wz, cz] at e
  simp [hlen, e, wl_nil, doneM_eq]
  by_cases h : 0 < endN c s 0 0 log
  · have hl : (intsD (wl log.length (endN c s 0 0 log))).getLast? = some (.int ((log.length - 1 : Nat) : Int)) := wl_last _ _ (by omega) h
    have hp : log ≠ [] := by intro z; subst z; simp [endN] at h
    have hpre : (intsD log)[log.length - 1]? = some (.int (endP 0 log)) := by
      have := log_prev log [] hp
      rwa [List.append_nil] at this
    simp [h, Nat.ne_of_gt h, hl, hpre, g1, dnD]
  · have h0 : endN c s 0 0 log = 0 := by omega
    simp [h0]

def Srt (ts : List Int) : Prop := ts.Pairwise (· ≤ ·)
def InR (ts : List Int) : Prop := ∀ t ∈ ts, 0 ≤ t ∧ t ≤ 1000000
theorem srt_tail {t : Int} {ts : List Int} (h : Srt (t :: ts)) : Srt ts := (List.pairwise_cons.mp h).2

def intsN (ns : List Nat) : List D := ns.map fun (n : Nat) => PyData.int (n : Int)
theorem stN_lt (c s p : Int) (n : Nat) (t : Int) (hc : 1 ≤ c) : (stN c s p n t : Int) < c := by
  unfold stN
  generalize (if 0 < n ∧ p + s ≤ t then 0 else n) = m
  split <;> omega

theorem played_step (c s : Int) (log pre ts : List Int) (t : Int) (n : Nat) (rows done : List D) (hlog : log = pre ++ t :: ts) (hn : n ≤ pre.length) (hc : (n : Int) < c) (hr : rows.length + 1 ≤ 100000) (hd : done.length + 2 ≤ 100000) :
    l_played_1 [.dat (ruleD c s), .dat (.tuple (intsD log)), .dat (.int c), .dat (.int s), .dat (.int n), .own rows, .own done, .dat (.int pre.length), .dat (.int t)] =
      some (.nx [.dat (ruleD c s), .dat (.tuple (intsD log)), .dat (.int c), .dat (.int s), .dat (.int (stN c s (endP 0 pre) n t)), .own (rows ++ [.int (stN c s (endP 0 pre) n t)]), .own (done ++ (stD c s (endP 0 pre) n t).map dnD), .dat (.int pre.length), .dat (.int t)]) := by
  unfold l_played_1
  have g1 : done.length < 100000 := by omega
  have g2 : rows.length < 100000 := by omega
  have g3 : done.length + 1 < 100000 := by omega
  by_cases h0 : 0 < n
  · have hp : pre ≠ [] := by intro z; rw [z] at hn; simp at hn; omega
    have hpl : 0 < pre.length := List.length_pos_iff.mpr hp
    have hpre : atI (intsD log) ((pre.length : Int) - 1) = some (.int (endP 0 pre)) := by
      rw [show (pre.length : Int) - 1 = ((pre.length - 1 : Nat) : Int) by omega, atI_natCast, hlog]
      exact log_prev pre (t :: ts) hp
    by_cases h1 : endP 0 pre + s ≤ t
    · have h1' : s ≤ t - endP 0 pre := by omega
      by_cases h2 : c = 1
      · subst h2; omega
      · have h2' : ¬ c ≤ 1 := by omega
        have h2'' : ¬ (1 : Int) = c := fun z => h2 z.symm
        simp [stN, stD, h0, hpre, h1, h1', h2', h2'', dnD, g1, g2, g3]
    · have h1' : ¬ s ≤ t - endP 0 pre := by omega
      by_cases h2 : (n : Int) + 1 = c
      · have h2' : c ≤ (n : Int) + 1 := by omega
        simp [stN, stD, h0, hpre, h1, h1', h2, h2', dnD, g1, g2, g3]
      · have h2' : ¬ c ≤ (n : Int) + 1 := by omega
        simp [stN, stD, h0, hpre, h1, h1', h2, h2', dnD, g1, g2, g3]
  · have h0' : n = 0 := by omega
    subst h0'
    by_cases h2 : c = 1
    · subst h2
      simp [stN, stD, dnD, g1, g2, g3]
    · have h2' : ¬ c ≤ 1 := by omega
      have h2'' : ¬ (1 : Int) = c := fun z => h2 z.symm
      simp [stN, stD, h2', h2'', dnD, g1, g2, g3]
theorem played_loop (c s : Int) (hc : 1 ≤ c) (log : List Int) : ∀ (ts pre : List Int) (n : Nat) (rows done : List D) (x y : Sl), log = pre ++ ts → n ≤ pre.length → (n : Int) < c → rows.length + ts.length ≤ 100000 → done.length + 2 * ts.length ≤ 100000 →
    ∃ x' y', forL (bTup 2 (bCons (bName 7) (bCons (bName 8) bNil))) l_played_1 (enumL pre.length (intsD ts)) [.dat (ruleD c s), .dat (.tuple (intsD log)), .dat (.int c), .dat (.int s), .dat (.int n), .own rows, .own done, x, y] =
      some (.nx [.dat (ruleD c s), .dat (.tuple (intsD log)), .dat (.int c), .dat (.int s), .dat (.int (endN c s (endP 0 pre) n ts)), .own (rows ++ intsN (rowsM c s (endP 0 pre) n ts)), .own (done ++ (doneL c s (endP 0 pre) n ts).map dnD), x', y'])
  | [], pre, n, rows, done, x, y, hl, hn, hnc, hr, hd => by
    refine ⟨x, y, ?_⟩
    simp [enumL, rowsM, doneL, endN, intsN]
  | t :: ts, pre, n, rows, done, x, y, hl, hn, hnc, hr, hd => by
    simp only [List.length_cons] at hr hd
    have st := played_step c s log pre ts t n rows done hl hn hnc (by omega) (by omega)
    have hsd := stD_len c s (endP 0 pre) n t
    have hsn := stN_le c s (endP 0 pre) n t
    obtain ⟨x', y', ih⟩ := played_loop c s hc log ts (pre ++ [t]) (stN c s (endP 0 pre) n t) (rows ++ [.int (stN c s (endP 0 pre) n t)]) (done ++ (stD c s (endP 0 pre) n t).map dnD) (.dat (.int pre.length)) (.dat (.int t))
      (by rw [hl]; simp) (by rw [List.length_append]; simp; omega) (stN_lt c s _ n t hc) (by rw [List.length_append]; simp; omega) (by rw [List.length_append, List.length_map]; omega)
    rw [endP_snoc, List.length_append, List.length_singleton] at ih
    refine ⟨x', y', ?_⟩
    rw [intsD_cons, enumL]
    refine (forL_cons (ρ1 := [.dat (ruleD c s), .dat (.tuple (intsD log)), .dat (.int c), .dat (.int s), .dat (.int n), .own rows, .own done, .dat (.int pre.length), .dat (.int t)]) rfl st).trans ?_
    refine ih.trans ?_
    simp [rowsM, doneL, endN, intsN, List.append_assoc]
theorem played_F (c s : Int) (hc : 1 ≤ c) (log : List Int) (hlog : log.length ≤ 40000) : F_played [ruleD c s, .tuple (intsD log)] = some (.tuple [.list (intsN (rowsM c s 0 0 log)), .list ((doneM c s 0 0 log).map dnD)]) := by
  obtain ⟨x', y', e⟩ := played_loop c s hc log log [] 0 [] [] .nil .nil rfl (Nat.zero_le _) (by simp; omega) (by simp; omega) (by simp; omega)
  simp only [List.length_nil, List.nil_append, endP] at e
  have hL := endN_le c s log 0 0
  have hd := doneL_len c s log 0 0
  have g1 : (doneL c s 0 0 log).length < 100000 := by omega
  unfold F_played b_played
  have cz : ((0 : Nat) : Int) = 0 := rfl
  rw [cz] at e
  simp [e, doneM_eq]
  by_cases h : 0 < endN c s 0 0 log
  · have hp : log ≠ [] := by intro z; subst z; simp [endN] at h
    have hpre : (intsD log).getLast? = some (.int (endP 0 log)) := by
      have := log_prev log [] hp
      rw [List.append_nil] at this
      rw [List.getLast?_eq_getElem?, intsD_len]
      exact this
    simp [h, hpre, g1, dnD]
  · simp [h]

theorem take_F2 (n m : Int) (bs : List D) (hb : Bag n bs) (hn : n ≤ 10 ^ 12) (h0 : 0 < m) (h1 : m ≤ 1000000000) : ∃ r bs', F_law_take bs [.int m] = some (.int r, bs') ∧ 0 ≤ r ∧ r < m ∧ Bag (n + 1) bs' := take_F n m bs hb hn h0 (by omega)
abbrev RuleOk (c s : Int) : Prop := 1 ≤ c ∧ c ≤ 20 ∧ 1 ≤ s ∧ s ≤ 1000

/-! ## runs of edits -/
def runM (s : Int) : Int → Nat → List Int → List Nat
  | _, _, [] => []
  | p, r, t :: ts => (if 0 < r ∧ t - p < s then r + 1 else 1) :: runM s t (if 0 < r ∧ t - p < s then r + 1 else 1) ts
def natsI (ns : List Nat) : List Int := ns.map fun (n : Nat) => (n : Int)
def LL (s : Int) (log : List Int) : Int := maxL 0 (natsI (runM s 0 0 log))
def RR (c s : Int) (log : List Int) : Int := maxL 0 (natsI (rowsM c s 0 0 log))
theorem intsN_eq (ns : List Nat) : intsN ns = intsD (natsI ns) := by simp [intsN, intsD, natsI]
theorem rows_runs (k : Nat) (hk : 1 ≤ k) (s : Int) : ∀ (ts : List Int) (p : Int) (r : Nat), rowsM (k : Int) s p (r % k) ts = (runM s p r ts).map (· % k)
  | [], p, r => rfl
  | t :: ts, p, r => by
    have st : stN (k : Int) s p (r % k) t = (if 0 < r ∧ t - p < s then r + 1 else 1) % k := by
      unfold stN
      have hm : r % k < k := Nat.mod_lt _ hk
      by_cases h0 : 0 < r
      · by_cases h1 : t - p < s
        · have h2 : ¬ (0 < r % k ∧ p + s ≤ t) := fun z => by omega
          rw [if_neg h2, if_pos (show 0 < r ∧ t - p < s from ⟨h0, h1⟩), Nat.add_mod]
          by_cases h3 : (k : Int) ≤ ((r % k : Nat) : Int) + 1
          · rw [if_pos h3]
            have h4 : r % k + 1 = k := by omega
            by_cases h5 : k = 1
            · subst h5; simp [Nat.mod_one]
            · rw [Nat.mod_eq_of_lt (show 1 < k by omega), h4, Nat.mod_self]
          · rw [if_neg h3]
            have h5 : 1 < k := by omega
            rw [Nat.mod_eq_of_lt h5, Nat.mod_eq_of_lt (show r % k + 1 < k by omega)]
        · rw [if_neg (show ¬ (0 < r ∧ t - p < s) from fun z => h1 z.2)]
          have h2 : (if 0 < r % k ∧ p + s ≤ t then 0 else r % k) = 0 := by
            by_cases h3 : 0 < r % k
            · rw [if_pos ⟨h3, by omega⟩]
            · rw [if_neg fun z => h3 z.1]; omega
          rw [h2]
          by_cases h5 : k = 1
          · subst h5; simp
          · rw [if_neg (by omega), Nat.mod_eq_of_lt (show 1 < k by omega)]
      · have hr : r = 0 := by omega
        subst hr
        rw [Nat.zero_mod]
        by_cases h5 : k = 1
        · subst h5; simp
        · simp [Nat.mod_eq_of_lt (show 1 < k by omega)]
          omega
    rw [rowsM, st, runM, List.map_cons, rows_runs k hk s ts]
theorem runs_below (s : Int) : ∀ (ts : List Int) (p : Int) (r v j : Nat), v ∈ runM s p r ts → 1 ≤ j → j ≤ v → j ≤ r ∨ j ∈ runM s p r ts
  | [], p, r, v, j, h, _, _ => by cases h
  | t :: ts, p, r, v, j, h, h1, h2 => by
    unfold runM at h ⊢
    generalize hr : (if 0 < r ∧ t - p < s then r + 1 else 1) = r' at h ⊢
    have hr' : ∀ i, 1 ≤ i → i ≤ r' → i ≤ r ∨ i = r' := fun i hi hi' => by
      rw [← hr] at hi' ⊢
      split at hi' <;> rename_i hc
      · rw [if_pos hc]; omega
      · rw [if_neg hc]; omega
    rcases List.mem_cons.mp h with rfl | h
    · rcases hr' j h1 h2 with z | rfl
      · exact .inl z
      · exact .inr (by simp)
    · rcases runs_below s ts t r' v j h h1 h2 with z | z
      · rcases hr' j h1 z with y | rfl
        · exact .inl y
        · exact .inr (by simp)
      · exact .inr (by simp [z])
theorem natsI_mem {ns : List Nat} {i : Int} (h : i ∈ natsI ns) : ∃ n ∈ ns, i = (n : Int) := by
  obtain ⟨n, h1, rfl⟩ := List.mem_map.mp h
  exact ⟨n, h1, rfl⟩
theorem mem_natsI {ns : List Nat} {n : Nat} (h : n ∈ ns) : (n : Int) ∈ natsI ns := List.mem_map.mpr ⟨n, h, rfl⟩
theorem LL_nonneg (s : Int) (log : List Int) : 0 ≤ LL s log := (maxL_ge _ _).1
theorem RR_eq (c s : Int) (hc : 1 ≤ c) (log : List Int) : RR c s log = if LL s log < c - 1 then LL s log else c - 1 := by
  obtain ⟨k, rfl⟩ := Int.eq_ofNat_of_zero_le (show 0 ≤ c by omega)
  have hk : 1 ≤ k := by omega
  have e := rows_runs k hk s log 0 0
  rw [Nat.zero_mod] at e
  have hL := maxL_ge (natsI (runM s 0 0 log)) 0
  have hL2 := maxL_mem (natsI (runM s 0 0 log)) 0
  have hR := maxL_ge (natsI (rowsM k s 0 0 log)) 0
  have hR2 := maxL_mem (natsI (rowsM k s 0 0 log)) 0
  have up : RR k s log ≤ LL s log ∧ RR k s log ≤ (k : Int) - 1 := by
    rcases hR2 with z | z
    · exact ⟨by unfold RR; rw [z]; exact hL.1, by unfold RR; rw [z]; omega⟩
    · obtain ⟨n, h1, h2⟩ := natsI_mem z
      rw [e] at h1
      obtain ⟨v, h3, h4⟩ := List.mem_map.mp h1
      have h5 := hL.2 _ (mem_natsI h3)
      have h6 : v % k ≤ v := Nat.mod_le _ _
      have h7 : v % k < k := Nat.mod_lt _ hk
      have h8 : RR k s log = ((v % k : Nat) : Int) := by unfold RR; rw [h2, ← h4]
      have h9 : (v : Int) ≤ LL s log := h5
      exact ⟨by omega, by omega⟩
  have dn : ∀ j : Nat, (j : Int) ≤ LL s log → (j : Int) ≤ (k : Int) - 1 → (j : Int) ≤ RR k s log := fun j h1 h2 => by
    by_cases hj : j = 0
    · subst hj; exact hR.1
    · rcases hL2 with z | z
      · have : LL s log = 0 := z
        omega
      · obtain ⟨v, h3, h4⟩ := natsI_mem z
        have h5 : LL s log = (v : Int) := h4
        rcases runs_below s log 0 0 v j h3 (by omega) (by omega) with y | y
        · omega
        · refine hR.2 _ (mem_natsI ?_)
          rw [e]
          exact List.mem_map.mpr ⟨j, y, Nat.mod_eq_of_lt (by omega)⟩
  have h0 := LL_nonneg s log
  by_cases h : LL s log < (k : Int) - 1
  · rw [if_pos h]
    obtain ⟨j, hj⟩ := Int.eq_ofNat_of_zero_le h0
    have := dn j (by omega) (by omega)
    omega
  · rw [if_neg h]
    obtain ⟨j, hj⟩ := Int.eq_ofNat_of_zero_le (show 0 ≤ (k : Int) - 1 by omega)
    have := dn j (by omega) (by omega)
    omega
theorem runs_mono {s u : Int} (h : s ≤ u) : ∀ (ts : List Int) (p m m' : Int) (r r' : Nat), m ≤ m' → r ≤ r' → maxL m (natsI (runM s p r ts)) ≤ maxL m' (natsI (runM u p r' ts))
  | [], p, m, m', r, r', hm, hr => hm
  | t :: ts, p, m, m', r, r', hm, hr => by
    unfold runM natsI maxL
    simp only [List.map_cons, maxL]
    have h1 : (if 0 < r ∧ t - p < s then r + 1 else 1) ≤ (if 0 < r' ∧ t - p < u then r' + 1 else 1) := by
      by_cases a : 0 < r ∧ t - p < s
      · rw [if_pos a, if_pos ⟨by omega, by omega⟩]; omega
      · rw [if_neg a]; split <;> omega
    generalize (if 0 < r ∧ t - p < s then r + 1 else 1) = q at h1
    generalize (if 0 < r' ∧ t - p < u then r' + 1 else 1) = q' at h1
    refine runs_mono h ts t _ _ q q' ?_ h1
    split <;> split <;> omega
theorem LL_mono {s u : Int} (h : s ≤ u) (log : List Int) : LL s log ≤ LL u log := runs_mono h log 0 0 0 0 0 (Int.le_refl _) (Nat.le_refl _)
def gapsM : Int → List Int → List Int
  | _, [] => []
  | p, t :: ts => (t - p) :: gapsM t ts
theorem runs_gap (s : Int) : ∀ (ts : List Int) (p : Int) (r : Nat), (∀ g ∈ gapsM p ts, g ≠ s) → runM s p r ts = runM (s + 1) p r ts
  | [], p, r, h => rfl
  | t :: ts, p, r, h => by
    have h0 : t - p ≠ s := h _ (by simp [gapsM])
    unfold runM
    have : (0 < r ∧ t - p < s) ↔ (0 < r ∧ t - p < s + 1) := ⟨fun z => ⟨z.1, by omega⟩, fun z => ⟨z.1, by omega⟩⟩
    simp only [this]
    rw [runs_gap s ts t _ fun g hg => h g (by simp [gapsM, hg])]
def gapsL : List Int → List Int
  | [] => []
  | t :: ts => gapsM t ts
theorem LL_gap (s : Int) (log : List Int) (h : ∀ g ∈ gapsL log, g ≠ s) : LL s log = LL (s + 1) log := by
  unfold LL
  cases log with
  | nil => rfl
  | cons t ts =>
    have := runs_gap s ts t 1 h
    unfold runM
    simp [this]

/-! ## the edits not saved at a time -/
def partM (T : Int) (log : List Int) : List Int := log.filter fun t => decide (t ≤ T)
def opN (c s T : Int) (log : List Int) : Nat := if partM T log = [] then 0 else if endP 0 (partM T log) + s ≤ T then 0 else endN c s 0 0 (partM T log)
def leI (T : Int) : D → Bool
  | .int t => decide (t ≤ T)
  | _ => false
theorem filt_I (T : Int) : ∀ log : List Int, (intsD log).filter (leI T) = intsD (partM T log)
  | [] => rfl
  | t :: ts => by
    have := filt_I T ts
    by_cases h : t ≤ T
    · simp [leI, partM, h] at this ⊢
      exact this
    · simp [leI, partM, h] at this ⊢
      exact this
theorem comp_part (T : Int) (log : List Int) (x0 x3 x5 : Sl) : compL (bName 4) (tstD (b2D (varD .bas 4) (varD .bas 2) leD)) (varD .str 4) [x0, .dat (.tuple (intsD log)), .dat (.int T), x3, .nil, x5] (intsD log) = some (intsD (partM T log)) := by
  rw [← filt_I, ← List.map_id ((intsD log).filter (leI T))]
  refine compL_fm (leI T) id fun d hd => ?_
  obtain ⟨t, _, rfl⟩ := List.mem_map.mp hd
  exact ⟨[x0, .dat (.tuple (intsD log)), .dat (.int T), x3, .dat (.int t), x5], rfl, by simp [leI], fun _ => rfl⟩
theorem rows_last (c s : Int) : ∀ (ts : List Int) (p : Int) (n : Nat), ts ≠ [] → (rowsM c s p n ts).getLast? = some (endN c s p n ts)
  | [], p, n, h => absurd rfl h
  | [t], p, n, h => rfl
  | t :: u :: ts, p, n, h => by
    have ih := rows_last c s (u :: ts) t (stN c s p n t) (by simp)
    rw [rowsM, endN, ← ih]
    rw [rowsM]
    exact List.getLast?_cons_cons
theorem rowsD_last (c s : Int) : ∀ (ts : List Int) (i : Nat) (p : Int) (n : Nat), ts ≠ [] → (rowsD i (rowsM c s p n ts)).getLast? = some (.list (intsD (wl (i + ts.length) (endN c s p n ts))))
  | [], i, p, n, h => absurd rfl h
  | [t], i, p, n, h => rfl
  | t :: u :: ts, i, p, n, h => by
    have ih := rowsD_last c s (u :: ts) (i + 1) t (stN c s p n t) (by simp)
    rw [rowsM, rowsD, endN]
    rw [show i + (t :: u :: ts).length = i + 1 + (u :: ts).length by simp; omega, ← ih]
    rw [rowsM, rowsD]
    exact List.getLast?_cons_cons
theorem part_len (T : Int) (log : List Int) : (partM T log).length ≤ log.length := List.length_filter_le _ _
theorem int_last (ts : List Int) (h : ts ≠ []) : (intsD ts).getLast? = some (.int (endP 0 ts)) := by
  have := log_prev ts [] h
  rw [List.append_nil] at this
  rw [List.getLast?_eq_getElem?, intsD_len]
  exact this

theorem unsaved_at_F (c s T : Int) (hc : 1 ≤ c) (log : List Int) (hl : log.length ≤ 40000) : F_unsaved_at [ruleD c s, .tuple (intsD log), .int T] = some (.int (opN c s T log)) := by
  have hp := part_len T log
  have e3 := played_F c s hc (partM T log) (by omega)
  have c1 : c_unsaved_at_1 [.dat (ruleD c s), .dat (.tuple (intsD log)), .dat (.int T), .nil, .nil, .nil] = some (.list (intsD (partM T log))) := by
    unfold c_unsaved_at_1
    have := comp_part T log (.dat (ruleD c s)) .nil .nil
    have hl2 : log.length ≤ 100000 := by omega
    simp [hl2, wipeR] at this ⊢
    rw [this]
    rfl
  unfold F_unsaved_at b_unsaved_at opN
  rw [intsN_eq] at e3
  simp only [ruleD] at e3 c1
  by_cases h : partM T log = []
  · rw [h] at e3 c1
    simp only [intsD_nil] at e3 c1
    simp [c1, e3, h, rowsM, natsI]
  · have hrl : (intsD (natsI (rowsM c s 0 0 (partM T log)))).getLast? = some (.int (endN c s 0 0 (partM T log))) := by
      rw [intsD, natsI, List.getLast?_map, List.getLast?_map, rows_last c s _ 0 0 h]; rfl
    have hne : PyData.eqvAll (intsD (natsI (rowsM c s 0 0 (partM T log)))) [] = false := by
      rw [eqvAll_nil_iff]
      cases hh : partM T log with
      | nil => exact absurd hh h
      | cons t ts => simp [rowsM, natsI]
    have hil := int_last _ h
    by_cases k : endP 0 (partM T log) + s ≤ T
    · have k' : s ≤ T - endP 0 (partM T log) := by omega
      simp [c1, e3, h, hne, hil, k, k']
    · have k' : ¬ s ≤ T - endP 0 (partM T log) := by omega
      simp [c1, e3, h, hne, hil, k, k', hrl]

theorem law_open_F (c s T : Int) (log : List Int) (hl : log.length ≤ 40000) : F_law_open [ruleD c s, .tuple (intsD log), .int T] = some (.list (intsD (wl (partM T log).length (opN c s T log)))) := by
  have hp := part_len T log
  have e3 := play_F c s (partM T log) (by omega)
  have c1 : c_law_open_1 [.dat (ruleD c s), .dat (.tuple (intsD log)), .dat (.int T), .nil, .nil, .nil] = some (.list (intsD (partM T log))) := by
    unfold c_law_open_1
    have := comp_part T log (.dat (ruleD c s)) .nil .nil
    have hl2 : log.length ≤ 100000 := by omega
    simp [hl2, wipeR] at this ⊢
    rw [this]
    rfl
  unfold F_law_open b_law_open opN
  simp only [ruleD] at e3 c1
  by_cases h : partM T log = []
  · rw [h] at e3 c1
    simp only [intsD_nil] at e3 c1
    simp [c1, e3, h, wl_zero]
  · have hrl := rowsD_last c s (partM T log) 0 0 0 h
    rw [Nat.zero_add] at hrl
    have hne : PyData.eqvAll (intsD (partM T log)) [] = false := by
      rw [eqvAll_nil_iff]
      cases hh : partM T log with
      | nil => exact absurd hh h
      | cons t ts => simp
    have hil := int_last _ h
    by_cases k : endP 0 (partM T log) + s ≤ T
    · simp [c1, e3, h, hne, hil, k, hrl, wl_zero]
    · simp [c1, e3, h, hne, hil, k, hrl]

theorem doneM_len (c s : Int) (ts : List Int) (p : Int) (n : Nat) : (doneM c s p n ts).length ≤ 2 * ts.length + 1 := by
  rw [doneM_eq, List.length_append]
  have := doneL_len c s ts p n
  split <;> simp <;> omega

/-- the saves until a time -/
def cT (c s T p : Int) (n : Nat) (ts : List Int) : Nat := ((doneM c s p n ts).filter fun d => decide (d.1 ≤ T)).length
def leP (T : Int) : D → Bool
  | .tuple [.int t, _] => decide (t ≤ T)
  | _ => false
def fstP : D → D
  | .tuple [t, _] => t
  | _ => .none
theorem filt_dn (T : Int) : ∀ ds : List (Int × Bool), ((ds.map dnD).filter (leP T)) = (ds.filter fun d => decide (d.1 ≤ T)).map dnD
  | [] => rfl
  | (t, b) :: ds => by
    have := filt_dn T ds
    by_cases h : t ≤ T
    · simp [dnD, leP, h] at this ⊢
      exact this
    · simp [dnD, leP, h] at this ⊢
      exact this
theorem comp_until (T : Int) (ds : List (Int × Bool)) (x0 x1 : Sl) : compL (bTup 2 (bCons (bName 3) (bCons (bName 4) bNil))) (tstD (b2D (varD .bas 3) (varD .bas 2) leD)) (varD .str 3) [x0, x1, .dat (.int T), .nil, .nil] (ds.map dnD) = some (((ds.filter fun d => decide (d.1 ≤ T)).map dnD).map fstP) := by
  rw [← filt_dn]
  refine compL_fm (leP T) fstP fun d hd => ?_
  obtain ⟨⟨t, b⟩, _, rfl⟩ := List.mem_map.mp hd
  exact ⟨[x0, x1, .dat (.int T), .dat (.int t), .dat (.str (if b then "count" else "idle"))], rfl, by simp [leP, dnD], fun _ => rfl⟩

theorem init_F (a : Addr) (c s : Int) (h : 1 ≤ c ∧ c ≤ 20 ∧ 1 ≤ s ∧ s ≤ 1000) : F_m_init a (.tuple [.int c, .int s]) = some (.tuple [.int c, .int s]) := by
  have e := check_rule_F c s h
  simp only [ruleD] at e
  unfold F_m_init b_m_init
  simp [e, flat, flatL]

end My

set_option autoImplicit false
namespace My
open PySem PySem.Spec
open PyProof.Rows hiding St
open L2 DL
/-! ## a document's states -/
@[simp] theorem flat_intsD : ∀ ns : List Int, flatL (intsD ns) = true
  | [] => rfl
  | n :: ns => by simp [flatL, flat, flat_intsD ns]
@[simp] theorem flat_int (i : Int) : flat (.int i) = true := rfl
@[simp] theorem flat_none : flat .none = true := rfl
@[simp] theorem flat_bool (b : Bool) : flat (.bool b) = true := rfl
@[simp] theorem flat_str (x : Str) : flat (.str x) = true := rfl
@[simp] theorem flat_tup (ds : List D) : flat (.tuple ds) = flatL ds := by rw [flat]
@[simp] theorem flatL_nil : flatL [] = true := rfl
@[simp] theorem flatL_cons (d : D) (ds : List D) : flatL (d :: ds) = (flat d && flatL ds) := by rw [flatL]
def dnT (c s t : Int) (e : List Int) : List Int := ((doneM c s 0 0 e).filter fun d => decide (d.1 ≤ t)).map (·.1)
def docS (c s : Int) (e : List Int) (t : Int) : D := .tuple [.tuple (intsD e), .int t, .int (opN c s t e), .tuple (intsD (dnT c s t e))]
theorem flat_docS (c s : Int) (e : List Int) (t : Int) : flat (docS c s e t) = true := by simp [docS]
theorem docS_start (c s : Int) : z_m_init = docS c s [] 0 := rfl
theorem fst_dn (ds : List (Int × Bool)) : ds.map (fstP ∘ dnD) = intsD (ds.map (·.1)) := by
  unfold intsD
  rw [List.map_map]
  exact List.map_congr_left fun d _ => rfl
theorem dnT_len (c s t : Int) (e : List Int) : (dnT c s t e).length ≤ 2 * e.length + 1 := by
  unfold dnT
  rw [List.length_map]
  exact Nat.le_trans (List.length_filter_le _ _) (doneM_len c s e 0 0)
theorem comp_keep (T : Int) (ds : List (Int × Bool)) (x0 x1 : Sl) : compL (bTup 2 (bCons (bName 4) (bCons (bName 5) bNil))) (tstD (b2D (varD .bas 4) (varD .bas 2) leD)) (varD .str 4) [x0, x1, .dat (.int T), .nil, .nil, .nil] (ds.map dnD) = some (((ds.filter fun d => decide (d.1 ≤ T)).map dnD).map fstP) := by
  rw [← filt_dn]
  refine compL_fm (leP T) fstP fun d hd => ?_
  obtain ⟨⟨t, b⟩, _, rfl⟩ := List.mem_map.mp hd
  exact ⟨[x0, x1, .dat (.int T), .nil, .dat (.int t), .dat (.str (if b then "count" else "idle"))], rfl, by simp [leP, dnD], fun _ => rfl⟩
theorem keep_F (a : Addr) (c s : Int) (hr : RuleOk c s) (sts : List D) (hn : sts.length < 1000) (e : List Int) (he : e.length ≤ 60) (t : Int) : F_m_keep a (ruleD c s) sts [.tuple (intsD e), .int t] = some (.none, sts ++ [docS c s e t]) := by
  have p1 := played_F c s hr.1 e (by omega)
  have p2 := unsaved_at_F c s t hr.1 e (by omega)
  have hd := doneM_len c s e 0 0
  have cp := comp_keep t (doneM c s 0 0 e) (.raw (.ref a)) (.dat (.tuple (intsD e)))
  have hl2 : (doneM c s 0 0 e).length ≤ 100000 := by omega
  have hf : ((doneM c s 0 0 e).filter fun d => decide (d.1 ≤ t)).map (fstP ∘ dnD) = intsD (dnT c s t e) := by
    rw [fst_dn]; rfl
  have hdl := dnT_len c s t e
  have g : (dnT c s t e).length ≤ 100000 := by omega
  rw [List.map_map, hf] at cp
  unfold F_m_keep b_m_keep g_m_keep
  simp only [ruleD] at p1 p2 ⊢
  simp [p1, p2, hl2, wipeR] at cp ⊢
  simp [cp, hn, docS, p2]
/-! ## its methods -/
def asc : Int → List Int → Prop
  | _, [] => True
  | t, m :: ms => t ≤ m ∧ m ≤ 1000000 ∧ asc m ms
def edB : Rho → Option OutX := (seqX (iteX (toT (notT (tstD (nD (consA (varD .bas 4) (consA (varD .bas 3) (consA (kD (.int 1000000)) nilA))) F_in_range)))) (raiX "InvalidTime") (okF skipF))
    (okF (setP 3 (varD .str 4))))
theorem ed_loop (x0 x1 x2 : Sl) : ∀ (ms : List Int) (t : Int) (x4 : Sl), asc t ms → ∃ x4', forLX (bName 4) edB (intsD ms) [x0, x1, x2, .dat (.int t), x4] = some (.ok (.nx [x0, x1, x2, .dat (.int (endP t ms)), x4']))
  | [], t, x4, _ => ⟨x4, rfl⟩
  | m :: ms, t, x4, h => by
    obtain ⟨h1, h2, h3⟩ := h
    obtain ⟨x4', e⟩ := ed_loop x0 x1 x2 ms m (.dat (.int m)) h3
    refine ⟨x4', ?_⟩
    rw [intsD_cons, forLX]
    have st : edB [x0, x1, x2, .dat (.int t), .dat (.int m)] = some (.ok (.nx [x0, x1, x2, .dat (.int m), .dat (.int m)])) := by
      unfold edB
      simp [in_range_F, h1, h2]
    show (bName 4 (.int m) [x0, x1, x2, .dat (.int t), x4]).bind _ = _
    simp [st]
    exact e
theorem b_edit_eq (a : Addr) (rl ls : D) : b_m_edit a rl ls = (seqX (okF (asgF (toE (slD (selfD a ls) noO (soO (kD (.int 2))))) (bTup 2 (bCons (bName 2) (bCons (bName 3) bNil)))))
    (seqX (forX (toI (itD (varD .str 1))) (bName 4) edB)
    (seqX (iteX (toT (tstD (b2D (b2D (nD (consA (varD .bas 2) nilA) lenD) (nD (consA (varD .bas 1) nilA) lenD) addD) (selfD a (.int 60)) gtD))) (raiX "TooMany") (okF skipF))
    (okF skipF)))) := rfl
theorem cut4 (x0 x1 x2 x3 : D) : DL.cutD [x0, x1, x2, x3] none (some 2) = [x0, x1] := by
  rw [cutD_to _ 2 (by decide)]
  rfl
section
variable (a l : Addr) (c s : Int) (hr : RuleOk c s) (sts : List D) (e : List Int) (t : Int) (hl : sts.getLast? = some (docS c s e t)) (hn : sts.length < 1000)
include hr hl hn in
theorem edit_ok (ms : List Int) (ha : asc t ms) (hlen : e.length + ms.length ≤ 60) : F_m_edit a l (ruleD c s) sts (intsD ms) = some (.ok (.int (opN c s (endP t ms) (e ++ ms))) (sts ++ [docS c s (e ++ ms) (endP t ms)])) := by
  have kp := keep_F a c s hr sts hn (e ++ ms) (by rw [List.length_append]; omega) (endP t ms)
  obtain ⟨x4', lp⟩ := ed_loop (.raw (.ref a)) (.dat (.tuple (intsD ms))) (.dat (.tuple (intsD e))) ms t .nil ha
  have g1 : ms.length ≤ 100000 := by omega
  have g2 : e.length + ms.length ≤ 100000 := by omega
  have g3 : ¬ (60 : Int) < (e.length : Int) + (ms.length : Int) := by omega
  unfold F_m_edit muVX muFX s_m_edit g_m_edit
  simp only [hl, b_edit_eq, Option.bind_some]
  simp only [ruleD] at kp
  rw [intsD_app] at kp
  simp [-forLX, docS, slcD, cut4, lp, g1, g2, g3, kp, flatL_app]
include hl in
theorem edit_many (ms : List Int) (ha : asc t ms) (hlen : 60 < e.length + ms.length) (hm : ms.length ≤ 60) : F_m_edit a l (ruleD c s) sts (intsD ms) = some (.er "TooMany") := by
  obtain ⟨x4', lp⟩ := ed_loop (.raw (.ref a)) (.dat (.tuple (intsD ms))) (.dat (.tuple (intsD e))) ms t .nil ha
  have g1 : ms.length ≤ 100000 := by omega
  have g3 : (60 : Int) < (e.length : Int) + (ms.length : Int) := by omega
  unfold F_m_edit muVX muFX s_m_edit g_m_edit
  simp only [hl, b_edit_eq, Option.bind_some]
  simp [-forLX, docS, slcD, cut4, lp, g1, g3]
include hl in
theorem edit_bad (odd : D) (ht : 0 ≤ t ∧ t ≤ 1000000) (ho : F_in_range [odd, .int t, .int 1000000] = some (.bool false)) : F_m_edit a l (ruleD c s) sts [.int t, odd] = some (.er "InvalidTime") := by
  unfold F_m_edit muVX muFX s_m_edit g_m_edit
  simp only [hl, b_edit_eq, Option.bind_some]
  simp [docS, slcD, cut4, edB, in_range_F, ht.2, ho]
include hr hl hn in
theorem call_ok (u : Int) (h1 : t ≤ u) (h2 : u ≤ 1000000) (he : e.length ≤ 60) : F_m_call a l (ruleD c s) sts [.int u] = some (.ok (.int (opN c s u e)) (sts ++ [docS c s e u])) := by
  have kp := keep_F a c s hr sts hn e he u
  unfold F_m_call muFX b_m_call s_m_call g_m_call
  rw [hl]
  simp only [ruleD] at kp
  simp [docS, slcD, cut4, in_range_F, h1, h2, kp]
include hl in
theorem call_bad (odd : D) (ho : F_in_range [odd, .int t, .int 1000000] = some (.bool false)) : F_m_call a l (ruleD c s) sts [odd] = some (.er "InvalidTime") := by
  unfold F_m_call muFX b_m_call s_m_call g_m_call
  rw [hl]
  simp [docS, slcD, cut4, ho]
end
theorem undo_one (a l : Addr) (rl : D) (sts : List D) (h : sts.length = 1) : F_m_undo a l rl sts [] = some (.er "NothingToUndo") := by
  unfold F_m_undo undoF b_m_undo
  simp [h]
theorem undo_more (a l : Addr) (rl : D) (sts : List D) (h : 1 < sts.length) : F_m_undo a l rl sts [] = some (.ok .none sts.dropLast) := by
  have h1 : ¬ sts.length = 1 := by omega
  have h2 : ¬ (sts.length : Int) = 1 := by omega
  have h3 : ¬ sts = [] := by rintro rfl; simp at h
  unfold F_m_undo undoF b_m_undo
  simp [h1, h2, h3]

end My

namespace My
open PySem PySem.Spec
open PyProof.Rows hiding St
open L2 DL
noncomputable section
section
variable {P : Program} {w : World} {K : PySem.W.Frag} {mg : Str → Option Value} {base : Heap} {ad : Adr}
def b__law_error (fl : Nat → Bool) (a : Addr) : Rho → Option Out :=
    (seqF (setP 1 (nD (consA (isED 0 a (fl 0)) (consA (isED 0 a (fl 1)) (consA (isED 0 a (fl 2)) nilA))) lstD))
    (seqF (setP 1 (b2D (varD .str 1) (nD (consA (isED 0 a (fl 3)) (consA (isED 0 a (fl 4)) (consA (isED 0 a (fl 5)) nilA))) lstD) addD))
    (seqF (setP 1 (b2D (varD .str 1) (nD (consA (isED 0 a (fl 6)) (consA (isED 0 a (fl 7)) nilA)) lstD) addD))
    (seqF (setP 2 (nD (consA (kD (.str "InvalidRule")) (consA (kD (.str "InvalidLog")) (consA (kD (.str "InvalidTime")) (consA (kD (.str "InvalidNumber")) (consA (kD (.str "InvalidIndex")) (consA (kD (.str "InvalidSeen")) nilA)))))) lstD))
    (seqF (setP 2 (b2D (varD .str 2) (nD (consA (kD (.str "NothingToUndo")) (consA (kD (.str "TooMany")) nilA)) lstD) addD))
    (retP (b1D (lcD (zipLI (varD .str 2) (varD .str 1)) [3, 4] (bTup 2 (bCons (bName 3) (bCons (bName 4) bNil))) (tstD (varD .bas 4)) (varD .str 3)) (joinD Str.empty))))))))
theorem err_fn (T : Txt K mg ad) (C : Addr) (nm : Str) (fl : Nat → Bool) (hE : ExcC K C) (h0 : PySem.W.kitOne K (.ref C) (.ref ad.InvalidRule) = some (fl 0)) (h1 : PySem.W.kitOne K (.ref C) (.ref ad.InvalidLog) = some (fl 1)) (h2 : PySem.W.kitOne K (.ref C) (.ref ad.InvalidTime) = some (fl 2)) (h3 : PySem.W.kitOne K (.ref C) (.ref ad.InvalidNumber) = some (fl 3)) (h4 : PySem.W.kitOne K (.ref C) (.ref ad.InvalidIndex) = some (fl 4)) (h5 : PySem.W.kitOne K (.ref C) (.ref ad.InvalidSeen) = some (fl 5)) (h6 : PySem.W.kitOne K (.ref C) (.ref ad.NothingToUndo) = some (fl 6)) (h7 : PySem.W.kitOne K (.ref C) (.ref ad.TooMany) = some (fl 7)) (he : ∀ a : Addr, ∃ ρ', b__law_error fl a (.raw (.ref a) :: List.replicate 4 .nil) = some (.rt (.str nm) ρ')) : ErrFn P w K mg base 6 "_law_error" C nm := by
  obtain ⟨f, fd, F, bi, hm⟩ := T.d_law_error.ex
  exact errfn_mk (k := 5) (b := b__law_error fl) F sc_law_error bi hm rfl (fun B cdv A outer s H E p hot hz =>
    (ds_cons (ds_setP (i := 1) sc_law_error.nd rfl (by first | exact Or.inl rfl | exact Or.inr rfl) (dp_lst (dpa_cons (dp_isE (pp := p) 0 hE (List.mem_singleton.mpr rfl) hz (hot.2.imp fun _ h => h.1) T.z_isinstance T.q_InvalidRule h0) (dpa_cons (dp_isE (pp := p) 0 hE (List.mem_singleton.mpr rfl) hz (hot.2.imp fun _ h => h.1) T.z_isinstance T.q_InvalidLog h1) (dpa_cons (dp_isE (pp := p) 0 hE (List.mem_singleton.mpr rfl) hz (hot.2.imp fun _ h => h.1) T.z_isinstance T.q_InvalidTime h2) dpa_nil)))))
    (ds_cons (ds_setP (i := 1) sc_law_error.nd rfl (by first | exact Or.inl rfl | exact Or.inr rfl) (dp_op op_addA o_add (dp_var 1) (dp_lst (dpa_cons (dp_isE (pp := p) 0 hE (List.mem_singleton.mpr rfl) hz (hot.2.imp fun _ h => h.1) T.z_isinstance T.q_InvalidNumber h3) (dpa_cons (dp_isE (pp := p) 0 hE (List.mem_singleton.mpr rfl) hz (hot.2.imp fun _ h => h.1) T.z_isinstance T.q_InvalidIndex h4) (dpa_cons (dp_isE (pp := p) 0 hE (List.mem_singleton.mpr rfl) hz (hot.2.imp fun _ h => h.1) T.z_isinstance T.q_InvalidSeen h5) dpa_nil))))))
    (ds_cons (ds_setP (i := 1) sc_law_error.nd rfl (by first | exact Or.inl rfl | exact Or.inr rfl) (dp_op op_addA o_add (dp_var 1) (dp_lst (dpa_cons (dp_isE (pp := p) 0 hE (List.mem_singleton.mpr rfl) hz (hot.2.imp fun _ h => h.1) T.z_isinstance T.q_NothingToUndo h6) (dpa_cons (dp_isE (pp := p) 0 hE (List.mem_singleton.mpr rfl) hz (hot.2.imp fun _ h => h.1) T.z_isinstance T.q_TooMany h7) dpa_nil)))))
    (ds_cons (ds_setP (i := 2) sc_law_error.nd rfl (by first | exact Or.inl rfl | exact Or.inr rfl) (dp_lst (dpa_cons dp_str (dpa_cons dp_str (dpa_cons dp_str (dpa_cons dp_str (dpa_cons dp_str (dpa_cons dp_str dpa_nil))))))))
    (ds_cons (ds_setP (i := 2) sc_law_error.nd rfl (by first | exact Or.inl rfl | exact Or.inr rfl) (dp_op op_addA o_add (dp_var 2) (dp_lst (dpa_cons dp_str (dpa_cons dp_str dpa_nil)))))
    (ds_one (ds_ret (dp_join (j := ⟨0, 0, 0, 0⟩) (dp_lcG (C := HotP p) (pn := [p]) (own := [("_law_word", 3), ("_law_good", 4)]) (fun _ h => h) (fun _ _ _ _ => ⟨hot, List.mem_singleton.mpr rfl⟩) sc_law_error.nd (dig_zipH T.z_zip (dp_var 2) (dp_var 1)) (blkOk_by (own := [("_law_word", 3), ("_law_good", 4)]) (N := ["_law_e", "_law_some", "_law_words", "_law_word", "_law_good"]) (sc := defScope st_law_error) (by decide +kernel)) (by decide) (fun _ _ _ _ _ => (dg_tupH (pp := p) ⟨hot, List.mem_singleton.mpr rfl⟩ (dgs_cons (dg_name (i := 3) sc_law_error.nd rfl (by first | exact Or.inl rfl | exact Or.inr rfl) (by first | exact .inl rfl | exact .inr rfl)) (dgs_cons (dg_name (i := 4) sc_law_error.nd rfl (by first | exact Or.inl rfl | exact Or.inr rfl) (by first | exact .inl rfl | exact .inr rfl)) dgs_nil)))) (fun _ _ _ _ _ _ => dts_one (dt_val (m := .bas) (dp_var 4))) (fun _ _ _ _ _ _ => dp_var 3)))))))))))  he
theorem ok_InvalidRule (T : Txt K mg ad) : ErrOk P w K mg base 6 "_law_error" ad.S "InvalidRule" := by
  refine ⟨fun a ha => ?_⟩
  obtain rfl : ad.InvalidRule = a := Value.ref.inj (Option.some.inj (T.q_InvalidRule.symm.trans ha))
  exact ⟨T.m_InvalidRule, err_fn T _ _ (fun n => n == 0) T.x_InvalidRule T.k_InvalidRule_InvalidRule T.k_InvalidRule_InvalidLog T.k_InvalidRule_InvalidTime T.k_InvalidRule_InvalidNumber T.k_InvalidRule_InvalidIndex T.k_InvalidRule_InvalidSeen T.k_InvalidRule_NothingToUndo T.k_InvalidRule_TooMany fun a => ⟨_, by simp [b__law_error, zipL, compL, wipeR]; rfl⟩⟩
theorem ne_InvalidRule : neD (.tuple [.str "InvalidRule"]) (.tuple [.str "InvalidRule"]) = some (.bool false) := by kernel_rfl
theorem ok_InvalidTime (T : Txt K mg ad) : ErrOk P w K mg base 6 "_law_error" ad.S "InvalidTime" := by
  refine ⟨fun a ha => ?_⟩
  obtain rfl : ad.InvalidTime = a := Value.ref.inj (Option.some.inj (T.q_InvalidTime.symm.trans ha))
  exact ⟨T.m_InvalidTime, err_fn T _ _ (fun n => n == 2) T.x_InvalidTime T.k_InvalidTime_InvalidRule T.k_InvalidTime_InvalidLog T.k_InvalidTime_InvalidTime T.k_InvalidTime_InvalidNumber T.k_InvalidTime_InvalidIndex T.k_InvalidTime_InvalidSeen T.k_InvalidTime_NothingToUndo T.k_InvalidTime_TooMany fun a => ⟨_, by simp [b__law_error, zipL, compL, wipeR]; rfl⟩⟩
theorem ne_InvalidTime : neD (.tuple [.str "InvalidTime"]) (.tuple [.str "InvalidTime"]) = some (.bool false) := by kernel_rfl
theorem ok_NothingToUndo (T : Txt K mg ad) : ErrOk P w K mg base 6 "_law_error" ad.S "NothingToUndo" := by
  refine ⟨fun a ha => ?_⟩
  obtain rfl : ad.NothingToUndo = a := Value.ref.inj (Option.some.inj (T.q_NothingToUndo.symm.trans ha))
  exact ⟨T.m_NothingToUndo, err_fn T _ _ (fun n => n == 6) T.x_NothingToUndo T.k_NothingToUndo_InvalidRule T.k_NothingToUndo_InvalidLog T.k_NothingToUndo_InvalidTime T.k_NothingToUndo_InvalidNumber T.k_NothingToUndo_InvalidIndex T.k_NothingToUndo_InvalidSeen T.k_NothingToUndo_NothingToUndo T.k_NothingToUndo_TooMany fun a => ⟨_, by simp [b__law_error, zipL, compL, wipeR]; rfl⟩⟩
theorem ne_NothingToUndo : neD (.tuple [.str "NothingToUndo"]) (.tuple [.str "NothingToUndo"]) = some (.bool false) := by kernel_rfl
theorem ok_TooMany (T : Txt K mg ad) : ErrOk P w K mg base 6 "_law_error" ad.S "TooMany" := by
  refine ⟨fun a ha => ?_⟩
  obtain rfl : ad.TooMany = a := Value.ref.inj (Option.some.inj (T.q_TooMany.symm.trans ha))
  exact ⟨T.m_TooMany, err_fn T _ _ (fun n => n == 7) T.x_TooMany T.k_TooMany_InvalidRule T.k_TooMany_InvalidLog T.k_TooMany_InvalidTime T.k_TooMany_InvalidNumber T.k_TooMany_InvalidIndex T.k_TooMany_InvalidSeen T.k_TooMany_NothingToUndo T.k_TooMany_TooMany fun a => ⟨_, by simp [b__law_error, zipL, compL, wipeR]; rfl⟩⟩
theorem ne_TooMany : neD (.tuple [.str "TooMany"]) (.tuple [.str "TooMany"]) = some (.bool false) := by kernel_rfl
theorem ok_all (T : Txt K mg ad) : ∀ C ∈ (["InvalidRule", "InvalidTime", "NothingToUndo", "TooMany"] : List Str), ErrOk P w K mg base 6 "_law_error" ad.S C := fun C h => by
  simp only [List.mem_cons, List.not_mem_nil, or_false] at h
  rcases h with rfl | rfl | rfl | rfl
  · exact ok_InvalidRule T
  · exact ok_InvalidTime T
  · exact ok_NothingToUndo T
  · exact ok_TooMany T
theorem out_fn (T : Txt K mg ad) : OutZ P w K mg base 6 "_law_outcome" "_law_error" ad.S := by
  obtain ⟨f, fd, F, bi, hm⟩ := T.d_law_outcome.ex
  exact out_mkZ F sc_law_outcome bi hm rfl rfl rfl (hb := fun cdv A outer s H TA TR act err =>
    pss_cons (ps_set (i := 1) sc_law_outcome.nd rfl (.inl rfl) (pe_tup (pa_cons pe_str pa_nil)))
    (pss_cons (L2N.ps_try_as (i := 2) rfl rfl sc_law_outcome.nd rfl rfl (by exact ⟨rfl, by decide, .inl T.q_S⟩) takes0N (fun W pn xe tk _ => pss_one (ps_set (i := 1) sc_law_outcome.nd rfl (.inl rfl) (pe_tup (pa_cons pe_str (pa_cons (act W pn xe _ _ tk) pa_nil))))) (fun a oe cls d pn hz hf => pss_one (ps_set (i := 1) sc_law_outcome.nd rfl (.inl rfl) (pe_tup (pa_cons (err a oe cls d pn _ _ _ hz hf) pa_nil)))))
    (pss_one (ps_ret (pv 1)))))
def chk1 : D → Option D
  | .tuple [.int c, .int s] => if 1 ≤ c ∧ c ≤ 20 ∧ 1 ≤ s ∧ s ≤ 1000 then some (.tuple [.int c, .int s]) else none
  | _ => none
theorem chk1_ok : ∀ (a : Addr) (d rl : D), chk1 d = some rl → F_m_init a d = some rl := by
  intro a d rl h
  unfold chk1 at h
  split at h
  · split at h
    · next hh =>
      cases h
      exact init_F a _ _ hh
    · cases h
  · cases h
theorem car_fn (T : Txt K mg ad) : CarFn P w K mg base 6 ad.D "careful" (.tuple [.int 1, .int 1]) z_m_init := by
  obtain ⟨p, f, fd, cm, Fu, bi⟩ := T.doc.cm
  obtain ⟨fi, fdi, psi, Ri, bini, Mi, hmi⟩ := (fn_m_init (P := P) (w := w) (base := base) T).ex
  exact ⟨_, p, f, T.doc.rd, cm, ((car_mk (g := nD (consA (kD (.int 1)) (consA (kD (.int 1)) nilA)) tupD) (d := .tuple [.int 1, .int 1]) Fu sc_m_careful rfl rfl (fun a => chk1_ok a _ _ rfl) rfl (fun B cdv A outer s H E hr => pss_one (ps_ret (pe_makeV (i := 0) Mi Ri (hr.mono (by decide)) bini .nil pass0 (pv 0) (pa_cons (dp_tup (m := .bas) (dpa_cons dp_int (dpa_cons dp_int dpa_nil))).pe pa_nil))))).raw bi .nil).imp fun vs H Q E h => by rw [List.append_nil]; exact h⟩
def b_law_edit (C : Addr) : Rho → Option OutM :=
    (seqM (iteM (toT (tstD (b2D (varD .bas 1) (nD nilA tupD) eqD))) (retM (docG 0 C nilA F_m_edit)) (okM skipF))
    (seqM (iteM (toT (tstD (b2D (nD (consA (varD .bas 1) nilA) lenD) (kD (.int 1)) eqD))) (retM (docG 0 C (consA (b2D (varD .bas 1) (kD (.int 0)) ixD) nilA) F_m_edit)) (okM skipF))
    (retM (ifM (tstD (b2D (nD (consA (varD .bas 1) nilA) lenD) (kD (.int 2)) eqD)) (docG 0 C (consA (b2D (varD .bas 1) (kD (.int 0)) ixD) (consA (b2D (varD .bas 1) (kD (.int 1)) ixD) nilA)) F_m_edit) (docG 0 C (consA (b2D (varD .bas 1) (kD (.int 0)) ixD) (consA (b2D (varD .bas 1) (kD (.int 1)) ixD) (consA (b2D (varD .bas 1) (kD (.int 2)) ixD) nilA))) F_m_edit)))))
def F_law_edit (C : Addr) : Addr → Addr → D → List D → List D → Option ResM := DL.runM C 1 1 (b_law_edit C)
theorem fn_law_edit (T : Txt K mg ad) : FnD P w K mg base 5 ad.D "_law_edit" (F_law_edit ad.D) := by
  obtain ⟨f, fd, F, bi, hm⟩ := T.d_law_edit.ex
  exact ⟨f, fd, _, fnd_mk (C := ad.D) (b := b_law_edit ad.D) F sc_law_edit rfl rfl (fun B cdv A outer s H E hr =>
      (dsm_cons (dsm_if (det_of (dt_cmp (m := .bas) (op_eqD hr.units) o_eq (dp_var 1) (dp_tup dpa_nil) (nomark _))) (dsm_one (dsm_ret (dxm_meth0 (fn_m_edit T) T.doc.cx.cls (L2N.takes_of rfl rfl rfl rfl) hr (by decide) (pv 0)))) (dsm_allN ds_nil))
      (dsm_cons (dsm_if (det_of (dt_cmp (m := .bas) (op_eqD hr.units) o_eq (dp_b call_len_seq n_len T.z_len PySem.boot_len (dpa_cons (dp_var 1) dpa_nil)) dp_int (nomark _))) (dsm_one (dsm_ret (dxm_meth (fn_m_edit T) T.doc.cx.cls (L2N.takes_of rfl rfl rfl rfl) hr (by decide) (pv 0) (dpa_cons (dp_ix ix_seq o_ix (dp_var 1) dp_int) dpa_nil)))) (dsm_allN ds_nil))
      (dsm_one (dsm_ret (dxm_if (dt_cmp (m := .bas) (op_eqD hr.units) o_eq (dp_b call_len_seq n_len T.z_len PySem.boot_len (dpa_cons (dp_var 1) dpa_nil)) dp_int (nomark _)) (dxm_meth (fn_m_edit T) T.doc.cx.cls (L2N.takes_of rfl rfl rfl rfl) hr (by decide) (pv 0) (dpa_cons (dp_ix ix_seq o_ix (dp_var 1) dp_int) (dpa_cons (dp_ix ix_seq o_ix (dp_var 1) dp_int) dpa_nil))) (dxm_meth (fn_m_edit T) T.doc.cx.cls (L2N.takes_of rfl rfl rfl rfl) hr (by decide) (pv 0) (dpa_cons (dp_ix ix_seq o_ix (dp_var 1) dp_int) (dpa_cons (dp_ix ix_seq o_ix (dp_var 1) dp_int) (dpa_cons (dp_ix ix_seq o_ix (dp_var 1) dp_int) dpa_nil)))))))))), hm, F.kp, bi⟩
def c_law_right_1 (C : Addr) : Rho → Option D :=
    (lcD (itD (b2D (nD (consA (varD .str 1) (consA (varD .str 3) nilA)) F_law_play) (kD (.int 1)) ixD)) [6, 7] (bTup 2 (bCons (bName 6) (bCons (bName 7) bNil))) (tstD (b2D (varD .bas 6) (varD .bas 4) leD)) (varD .str 6))
def l_law_right_1 (C : Addr) : Rho → Option Out :=
    (seqF (setP 9 (andV (nD (consA (varD .str 6) (consA (kD (.int 0)) (consA (b2D (kD (.int 10)) (kD (.int 7)) powD) nilA))) F_law_in) (b2D (varD .str 6) (varD .str 5) inTD)))
    (iteF (toT (notT (tstD (nD (consA (docR 0 C (consA (varD .bas 6) nilA) F_m_contains) (consA (varD .bas 9) nilA)) (F_law_same 8))))) (retP (kD (.bool false))) skipF))
def b_law_right (C : Addr) : Rho → Option OutM :=
    (okM (seqF (asgF (toE (varD .str 2)) (bTup 2 (bCons (bName 3) (bCons (bName 4) bNil))))
    (seqF (setP 5 (nD (consA (c_law_right_1 C) nilA) tupleD))
    (seqF (setP 8 (nD (consA (nD (consA (varD .str 1) (consA (varD .str 3) (consA (varD .str 4) nilA))) F_law_open) nilA) lenD))
    (seqF (iteF (toT (notT (tstD (nD (consA (nD (consA (docR 0 C nilA F_m_edits) (consA (docR 0 C nilA F_m_time) (consA (docR 0 C nilA F_m_unsaved) (consA (docR 0 C nilA F_m_saved) (consA (docR 0 C nilA lenG) nilA))))) lstD) (consA (nD (consA (varD .bas 3) (consA (varD .bas 4) (consA (varD .bas 8) (consA (varD .bas 5) (consA (nD (consA (varD .bas 3) nilA) lenD) nilA))))) lstD) nilA)) (F_law_same 8))))) (retP (kD (.bool false))) skipF)
    (seqF (iteF (toT (notT (tstD (nD (consA (docR 0 C nilA F_m_bool) (consA (b2D (varD .bas 8) (kD (.int 0)) gtD) nilA)) (F_law_same 8))))) (retP (kD (.bool false))) skipF)
    (seqF (forF (toI (itD (nD (consA (varD .str 4) (consA (b2D (varD .str 4) (kD (.int 1)) subD) (consA (ifD (tstD (b2D (varD .bas 3) (nD nilA tupD) neD)) (b2D (varD .str 3) (b1D (kD (.int 1)) negD) ixD) (kD (.int 0))) (consA (kD .none) (consA (kD (.bool true)) (consA (kD (.str "0")) (consA (b1D (kD (.int 1)) negD) nilA))))))) tupD))) (bName 6) (l_law_right_1 C))
    (retP (kD (.bool true))))))))))
def F_law_right (C : Addr) : Addr → Addr → D → List D → List D → Option ResM := DL.runM C 2 9 (b_law_right C)
theorem fn_law_right (T : Txt K mg ad) : FnD P w K mg base 10 ad.D "_law_right" (F_law_right ad.D) := by
  obtain ⟨f, fd, F, bi, hm⟩ := T.d_law_right.ex
  exact ⟨f, fd, _, fnd_mk (C := ad.D) (b := b_law_right ad.D) F sc_law_right rfl rfl (fun B cdv A outer s H E hr =>
      (dsm_allN (ds_cons (ds_asg (de_of (dp_var 2)) (dg_tup rfl (dgs_cons (dg_name (i := 3) sc_law_right.nd rfl (by first | exact Or.inl rfl | exact Or.inr rfl) (by first | exact .inl rfl | exact .inr rfl)) (dgs_cons (dg_name (i := 4) sc_law_right.nd rfl (by first | exact Or.inl rfl | exact Or.inr rfl) (by first | exact .inl rfl | exact .inr rfl)) dgs_nil))))
      (ds_cons (ds_setP (i := 5) sc_law_right.nd rfl (by first | exact Or.inl rfl | exact Or.inr rfl) (dp_ty call_tuple_of n_tuple T.z_tuple boot_tuple (dpa_cons (dp_lc (own := [("_law_moment", 6), ("_law_reason", 7)]) rfl sc_law_right.nd (dic_of (di_seq (dp_ix ix_seq o_ix (dp_call (fn_law_play T) hr (by decide) (dpa_cons (dp_var 1) (dpa_cons (dp_var 3) dpa_nil))) dp_int))) (blkOk_by (own := [("_law_moment", 6), ("_law_reason", 7)]) (N := ["_law_run", "_law_rule", "_law_state", "_law_edits", "_law_time", "_law_done", "_law_moment", "_law_reason", "_law_many", "_law_inside"]) (sc := defScope st_law_right) (by decide +kernel)) (by decide) (fun _ _ _ _ _ => (dg_tup rfl (dgs_cons (dg_name (i := 6) sc_law_right.nd rfl (by first | exact Or.inl rfl | exact Or.inr rfl) (by first | exact .inl rfl | exact .inr rfl)) (dgs_cons (dg_name (i := 7) sc_law_right.nd rfl (by first | exact Or.inl rfl | exact Or.inr rfl) (by first | exact .inl rfl | exact .inr rfl)) dgs_nil)))) (fun _ _ _ _ _ => (dts_one (dt_cmp (m := .bas) op_le o_cmp (dp_var 6) (dp_var 4) (nomark _)))) (fun _ _ _ _ _ => (dp_var 6))) dpa_nil)))
      (ds_cons (ds_setP (i := 8) sc_law_right.nd rfl (by first | exact Or.inl rfl | exact Or.inr rfl) (dp_b call_len_seq n_len T.z_len PySem.boot_len (dpa_cons (dp_call (fn_law_open T) hr (by decide) (dpa_cons (dp_var 1) (dpa_cons (dp_var 3) (dpa_cons (dp_var 4) dpa_nil)))) dpa_nil)))
      (ds_cons (ds_if (det_of (dt_not (dt_val (m := .bas) (dp_call (fn_law_same_r T 8) hr (by decide) (dpa_cons (dp_lst (dpa_cons (dp_prop (fn_m_edits T) T.doc.cx.cls hr (by decide) (pv 0)) (dpa_cons (dp_prop (fn_m_time T) T.doc.cx.cls hr (by decide) (pv 0)) (dpa_cons (dp_prop (fn_m_unsaved T) T.doc.cx.cls hr (by decide) (pv 0)) (dpa_cons (dp_prop (fn_m_saved T) T.doc.cx.cls hr (by decide) (pv 0)) (dpa_cons (dp_lenD (mfnr_less lenG_le (fn_m_len T)) hr (by decide) T.z_len (pv 0) (hF := lenG_int)) dpa_nil)))))) (dpa_cons (dp_lst (dpa_cons (dp_var 3) (dpa_cons (dp_var 4) (dpa_cons (dp_var 8) (dpa_cons (dp_var 5) (dpa_cons (dp_b call_len_seq n_len T.z_len PySem.boot_len (dpa_cons (dp_var 3) dpa_nil)) dpa_nil)))))) dpa_nil)))))) (ds_one (ds_ret dp_bool)) ds_nil)
      (ds_cons (ds_if (det_of (dt_not (dt_val (m := .bas) (dp_call (fn_law_same_r T 8) hr (by decide) (dpa_cons (dp_boolD (fn_m_bool T) hr (by decide) T.z_bool (pv 0) (hF := bool_bool)) (dpa_cons (dp_cmp op_gt o_cmp (dp_var 8) dp_int (nomark _)) dpa_nil)))))) (ds_one (ds_ret dp_bool)) ds_nil)
      (ds_cons (ds_for PassesOwn.never rfl (die_of (di_seq (dp_tup (dpa_cons (dp_var 4) (dpa_cons (dp_op op_sub o_sub (dp_var 4) dp_int) (dpa_cons (dp_if (dt_cmp (m := .bas) (op_neD hr.units) o_ne (dp_var 3) (dp_tup dpa_nil) (nomark _)) (dp_ix ix_seq o_ix (dp_var 3) (dp_un un_neg o_neg dp_int)) dp_int) (dpa_cons dp_none (dpa_cons dp_bool (dpa_cons dp_str (dpa_cons (dp_un un_neg o_neg dp_int) dpa_nil)))))))))) (dg_name (i := 6) sc_law_right.nd rfl (by first | exact Or.inl rfl | exact Or.inr rfl) (by first | exact .inl rfl | exact .inr rfl)) (ds_cons (ds_setP (i := 9) sc_law_right.nd rfl (by first | exact Or.inl rfl | exact Or.inr rfl) (dp_and (dp_call (fn_law_in T) hr (by decide) (dpa_cons (dp_var 6) (dpa_cons dp_int (dpa_cons (dp_op op_pow o_pow dp_int dp_int) dpa_nil)))) (dp_one (dp_cmp op_in_seq o_inT (dp_var 6) (dp_var 5) (by rfl)))))
      (ds_one (ds_if (det_of (dt_not (dt_val (m := .bas) (dp_call (fn_law_same_r T 8) hr (by decide) (dpa_cons (dp_inD (fn_m_contains T) hr (by decide) (dp_var 6) (pv 0) contains_bool) (dpa_cons (dp_var 9) dpa_nil)))))) (ds_one (ds_ret dp_bool)) ds_nil))))
      (ds_one (ds_ret dp_bool)))))))))), hm, F.kp, bi⟩
def ls_law_step : List LamD := [lamD (eX (sVal (sSt (sIf (sSt (defBody st_law_step) 1)) 2)) 0), lamD (eX (sVal (sSt (sIf (sSt (defBody st_law_step) 2)) 1)) 0), lamD (eX (eX (sVal (sSt (defBody st_law_step) 4)) 0) 0), lamD (eX (eX (eZ (eZ (sVal (sSt (defBody st_law_step) 5)) 0) 1) 0) 0)]
def G_law_step (C : Addr) : Nat → Rho → Option ResD
  | 0 => (docG 1 C (consA (varD .bas 10) nilA) (F_law_edit C))
  | 1 => (docG 1 C (consA (varD .bas 11) nilA) F_m_call)
  | 2 => (docG 1 C (consA (varD .bas 12) nilA) F_m_call)
  | 3 => (docG 1 C (consA (varD .bas 6) (consA (varD .bas 12) nilA)) F_m_edit)
  | _ => fun _ => none
theorem lamk_law_step_0 (T : Txt K mg ad) {B : Base} {A : Around} {outer : List PySem.Env} {s : Shared} {H : Hp} {E : XK} {f c : Addr} : LamKM (cxOf CX0 P w K mg base ["_law_bag", "_law_run", "_law_rule", "_law_state", "_law_way", "_law_edits", "_law_time", "_law_turn", "_law_told", "_law_later", "_law_found", "_law_here", "_law_odd", "_law_good"] "_law_step" (defScope st_law_step) f (.ref c) A outer s H E).nox B ls_law_step 5 0 (G_law_step ad.D 0) :=
  ⟨_, _, _, rfl, LamX.lamS_by (sc := defScope st_law_step) (by decide +kernel), fun _ _ _ _ _ => rfl, fun A outer s H E f c hr => (dxm_fn (fn_law_edit T) takes_lam hr (by decide) (pv 1) (dpa_cons (dp_var 10) dpa_nil))⟩
theorem lamk_law_step_1 (T : Txt K mg ad) {B : Base} {A : Around} {outer : List PySem.Env} {s : Shared} {H : Hp} {E : XK} {f c : Addr} : LamKM (cxOf CX0 P w K mg base ["_law_bag", "_law_run", "_law_rule", "_law_state", "_law_way", "_law_edits", "_law_time", "_law_turn", "_law_told", "_law_later", "_law_found", "_law_here", "_law_odd", "_law_good"] "_law_step" (defScope st_law_step) f (.ref c) A outer s H E).nox B ls_law_step 5 1 (G_law_step ad.D 1) :=
  ⟨_, _, _, rfl, LamX.lamS_by (sc := defScope st_law_step) (by decide +kernel), fun _ _ _ _ _ => rfl, fun A outer s H E f c hr => (dxm_call (fn_m_call T) takes_lam hr (by decide) (pv 1) (dpa_cons (dp_var 11) dpa_nil))⟩
theorem lamk_law_step_2 (T : Txt K mg ad) {B : Base} {A : Around} {outer : List PySem.Env} {s : Shared} {H : Hp} {E : XK} {f c : Addr} : LamKM (cxOf CX0 P w K mg base ["_law_bag", "_law_run", "_law_rule", "_law_state", "_law_way", "_law_edits", "_law_time", "_law_turn", "_law_told", "_law_later", "_law_found", "_law_here", "_law_odd", "_law_good"] "_law_step" (defScope st_law_step) f (.ref c) A outer s H E).nox B ls_law_step 5 2 (G_law_step ad.D 2) :=
  ⟨_, _, _, rfl, LamX.lamS_by (sc := defScope st_law_step) (by decide +kernel), fun _ _ _ _ _ => rfl, fun A outer s H E f c hr => (dxm_call (fn_m_call T) takes_lam hr (by decide) (pv 1) (dpa_cons (dp_var 12) dpa_nil))⟩
theorem lamk_law_step_3 (T : Txt K mg ad) {B : Base} {A : Around} {outer : List PySem.Env} {s : Shared} {H : Hp} {E : XK} {f c : Addr} : LamKM (cxOf CX0 P w K mg base ["_law_bag", "_law_run", "_law_rule", "_law_state", "_law_way", "_law_edits", "_law_time", "_law_turn", "_law_told", "_law_later", "_law_found", "_law_here", "_law_odd", "_law_good"] "_law_step" (defScope st_law_step) f (.ref c) A outer s H E).nox B ls_law_step 5 3 (G_law_step ad.D 3) :=
  ⟨_, _, _, rfl, LamX.lamS_by (sc := defScope st_law_step) (by decide +kernel), fun _ _ _ _ _ => rfl, fun A outer s H E f c hr => (dxm_meth (fn_m_edit T) T.doc.cx.cls takes_lam hr (by decide) (pv 1) (dpa_cons (dp_var 6) (dpa_cons (dp_var 12) dpa_nil)))⟩
theorem lamk_law_step (T : Txt K mg ad) {B : Base} {A : Around} {outer : List PySem.Env} {s : Shared} {H : Hp} {E : XK} {f c : Addr} : ∀ n, n < 4 → LamKM (cxOf CX0 P w K mg base ["_law_bag", "_law_run", "_law_rule", "_law_state", "_law_way", "_law_edits", "_law_time", "_law_turn", "_law_told", "_law_later", "_law_found", "_law_here", "_law_odd", "_law_good"] "_law_step" (defScope st_law_step) f (.ref c) A outer s H E).nox B ls_law_step 5 n (G_law_step ad.D n)
  | 0, _ => lamk_law_step_0 T
  | 1, _ => lamk_law_step_1 T
  | 2, _ => lamk_law_step_2 T
  | 3, _ => lamk_law_step_3 T
  | n + 4, h => absurd h (by omega)
def l_law_step_1 (C : Addr) : Rho → Option Out :=
    (seqF (setF 11 (b2E (toE (varD .str 11)) (b2E (toE (nD (consA (kD (.int 0)) (consA (kD (.int 1)) (consA (b2D (b2D (varD .str 2) (kD (.int 1)) ixD) (kD (.int 1)) subD) (consA (b2D (varD .str 2) (kD (.int 1)) ixD) (consA (kD (.int 2)) nilA))))) lstD)) (drwE 0 (consEA (toE (kD (.int 5))) nilEA) F_law_take) ixD) addD))
    (setP 10 (b2D (varD .str 10) (nD (consA (varD .str 11) nilA) tupD) addD)))
def b_law_step (C : Addr) : Rho → Option Out :=
    (seqF (asgF (nE (consEA (drwE 0 (consEA (toE (kD (.int 8))) nilEA) F_law_take) (consEA (toE (b2D (varD .str 3) (kD (.int 0)) ixD)) (consEA (toE (b2D (varD .str 3) (kD (.int 1)) ixD)) nilEA))) tupD) (bTup 3 (bCons (bName 4) (bCons (bName 5) (bCons (bName 6) bNil)))))
    (seqF (iteF (toT (tstD (b2D (varD .bas 4) (kD (.int 5)) ltD))) (seqF (asgF (toE (nD (consA (nD nilA tupD) (consA (varD .str 6) nilA)) tupD)) (bTup 2 (bCons (bName 10) (bCons (bName 11) bNil))))
    (seqF (forF (nIE (consEA (drwE 0 (consEA (toE (kD (.int 4))) nilEA) F_law_take) nilEA) rng1) (bName 7) (l_law_step_1 C))
    (seqF (setF 8 (outM (G_law_step C 0) ["InvalidRule", "InvalidTime", "NothingToUndo", "TooMany"]))
    (seqF (iteF (toT (tstD (b2D (b2D (nD (consA (varD .bas 5) nilA) lenD) (nD (consA (varD .bas 10) nilA) lenD) addD) (kD (.int 60)) gtD))) (retP (nD (consA (b2D (varD .bas 8) (nD (consA (kD (.str "TooMany")) nilA) tupD) eqD) (consA (nD nilA lstD) nilA)) tupD)) skipF)
    (seqF (setP 9 (nD (consA (b2D (varD .str 5) (varD .str 10) addD) (consA (varD .str 11) nilA)) tupD))
    (retP (nD (consA (nD (consA (varD .bas 8) (consA (nD (consA (kD (.str "value")) (consA (nD (consA (nD (consA (varD .bas 2) (consA (b2D (varD .bas 9) (kD (.int 0)) ixD) (consA (varD .bas 11) nilA))) F_law_open) nilA) lenD) nilA)) tupD) nilA)) (F_law_same 8)) (consA (nD (consA (varD .bas 9) nilA) lstD) nilA)) tupD))))))) skipF)
    (seqF (iteF (toT (tstD (b2D (varD .bas 4) (kD (.int 7)) ltD))) (seqF (setF 11 (b2E (toE (varD .str 6)) (drwE 0 (consEA (toE (b2D (b2D (varD .str 2) (kD (.int 1)) ixD) (kD (.int 3)) addD)) nilEA) F_law_take) addD))
    (seqF (setF 8 (outM (G_law_step C 1) ["InvalidRule", "InvalidTime", "NothingToUndo", "TooMany"]))
    (retP (nD (consA (nD (consA (varD .bas 8) (consA (nD (consA (kD (.str "value")) (consA (nD (consA (nD (consA (varD .bas 2) (consA (varD .bas 5) (consA (varD .bas 11) nilA))) F_law_open) nilA) lenD) nilA)) tupD) nilA)) (F_law_same 8)) (consA (nD (consA (nD (consA (varD .bas 5) (consA (varD .bas 11) nilA)) tupD) nilA) lstD) nilA)) tupD)))) skipF)
    (seqF (setF 12 (b2E (toE (nD (consA (kD .none) (consA (kD (.bool true)) (consA (b1D (kD (.int 1)) negD) (consA (b2D (varD .str 6) (kD (.int 1)) subD) (consA (b2D (b2D (kD (.int 10)) (kD (.int 6)) powD) (kD (.int 1)) addD) (consA (kD (.str "3")) nilA)))))) lstD)) (drwE 0 (consEA (toE (kD (.int 6))) nilEA) F_law_take) ixD))
    (seqF (setF 13 (b2E (outM (G_law_step C 2) ["InvalidRule", "InvalidTime", "NothingToUndo", "TooMany"]) (toE (nD (consA (kD (.str "InvalidTime")) nilA) tupD)) eqD))
    (retE (nE (consEA (andVE (toE (varD .str 13)) (b2E (outM (G_law_step C 3) ["InvalidRule", "InvalidTime", "NothingToUndo", "TooMany"]) (toE (nD (consA (kD (.str "InvalidTime")) nilA) tupD)) eqD)) (consEA (toE (nD nilA lstD)) nilEA)) tupD)))))))
def F_law_step (C : Addr) : List D → Addr → Addr → D → List D → List D → Option (D × List D × List D) := runBD C 2 14 (b_law_step C)
theorem fn_law_step (T : Txt K mg ad) (TB : Tbs base mg ad) : FnBD P w K mg base 10 "_law_step" ad.P_law_step ad.D (F_law_step ad.D) := by
  obtain ⟨f, fd, F, bi, hm⟩ := T.d_law_step
  exact fnbd_mk (C := ad.D) (b := b_law_step ad.D) ls_law_step F sc_law_step bi hm rfl rfl TB.t_law_step (fun B A outer s H E hr M =>
      (ds_cons (ds_asg (de_tup (dea_cons (de_drw (i := 0) (fn_law_take T) hr (by decide) rfl (dea_cons (de_of dp_int) dea_nil)) (dea_cons (de_of (dp_ix ix_seq o_ix (dp_var 3) dp_int)) (dea_cons (de_of (dp_ix ix_seq o_ix (dp_var 3) dp_int)) dea_nil)))) (dg_tup rfl (dgs_cons (dg_name (i := 4) sc_law_step.nd rfl (by first | exact Or.inl rfl | exact Or.inr rfl) (by first | exact .inl rfl | exact .inr rfl)) (dgs_cons (dg_name (i := 5) sc_law_step.nd rfl (by first | exact Or.inl rfl | exact Or.inr rfl) (by first | exact .inl rfl | exact .inr rfl)) (dgs_cons (dg_name (i := 6) sc_law_step.nd rfl (by first | exact Or.inl rfl | exact Or.inr rfl) (by first | exact .inl rfl | exact .inr rfl)) dgs_nil)))))
      (ds_cons (ds_if (det_of (dt_cmp (m := .bas) op_lt o_cmp (dp_var 4) dp_int (nomark _))) (ds_cons (ds_asg (de_of (dp_tup (dpa_cons (dp_tup dpa_nil) (dpa_cons (dp_var 6) dpa_nil)))) (dg_tup rfl (dgs_cons (dg_name (i := 10) sc_law_step.nd rfl (by first | exact Or.inl rfl | exact Or.inr rfl) (by first | exact .inl rfl | exact .inr rfl)) (dgs_cons (dg_name (i := 11) sc_law_step.nd rfl (by first | exact Or.inl rfl | exact Or.inr rfl) (by first | exact .inl rfl | exact .inr rfl)) dgs_nil))))
      (ds_cons (ds_for PassesOwn.never rfl (die_rng1 T.z_range (dea_cons (de_drw (i := 0) (fn_law_take T) hr (by decide) rfl (dea_cons (de_of dp_int) dea_nil)) dea_nil)) (dg_name (i := 7) sc_law_step.nd rfl (by first | exact Or.inl rfl | exact Or.inr rfl) (by first | exact .inl rfl | exact .inr rfl)) (ds_cons (ds_set (i := 11) sc_law_step.nd rfl (by first | exact Or.inl rfl | exact Or.inr rfl) (de_op op_addA o_add (de_of (dp_var 11)) (de_ix ix_seq o_ix (de_of (dp_lst (dpa_cons dp_int (dpa_cons dp_int (dpa_cons (dp_op op_sub o_sub (dp_ix ix_seq o_ix (dp_var 2) dp_int) dp_int) (dpa_cons (dp_ix ix_seq o_ix (dp_var 2) dp_int) (dpa_cons dp_int dpa_nil))))))) (de_drw (i := 0) (fn_law_take T) hr (by decide) rfl (dea_cons (de_of dp_int) dea_nil)))))
      (ds_one (ds_setP (i := 10) sc_law_step.nd rfl (by first | exact Or.inl rfl | exact Or.inr rfl) (dp_op op_addA o_add (dp_var 10) (dp_tup (dpa_cons (dp_var 11) dpa_nil)))))))
      (ds_cons (ds_set (i := 8) sc_law_step.nd rfl (by first | exact Or.inl rfl | exact Or.inr rfl) (de_outcome (n := 0) (out_fn T) M hr (by decide) (by decide) rfl (by rfl) (LamX.lamS_by (sc := defScope st_law_step) (by decide +kernel)) (lamk_law_step T 0 (by decide)) (ok_all T)))
      (ds_cons (ds_if (det_of (dt_cmp (m := .bas) op_gt o_cmp (dp_op op_addA o_add (dp_b call_len_seq n_len T.z_len PySem.boot_len (dpa_cons (dp_var 5) dpa_nil)) (dp_b call_len_seq n_len T.z_len PySem.boot_len (dpa_cons (dp_var 10) dpa_nil))) dp_int (nomark _))) (ds_one (ds_ret (dp_tup (dpa_cons (dp_cmp (op_eqD hr.units) o_eq (dp_var 8) (dp_tup (dpa_cons dp_str dpa_nil)) (nomark _)) (dpa_cons (dp_lst dpa_nil) dpa_nil))))) ds_nil)
      (ds_cons (ds_setP (i := 9) sc_law_step.nd rfl (by first | exact Or.inl rfl | exact Or.inr rfl) (dp_tup (dpa_cons (dp_op op_addA o_add (dp_var 5) (dp_var 10)) (dpa_cons (dp_var 11) dpa_nil))))
      (ds_one (ds_ret (dp_tup (dpa_cons (dp_call (fn_law_same_r T 8) hr (by decide) (dpa_cons (dp_var 8) (dpa_cons (dp_tup (dpa_cons dp_str (dpa_cons (dp_b call_len_seq n_len T.z_len PySem.boot_len (dpa_cons (dp_call (fn_law_open T) hr (by decide) (dpa_cons (dp_var 2) (dpa_cons (dp_ix ix_seq o_ix (dp_var 9) dp_int) (dpa_cons (dp_var 11) dpa_nil)))) dpa_nil)) dpa_nil))) dpa_nil))) (dpa_cons (dp_lst (dpa_cons (dp_var 9) dpa_nil)) dpa_nil)))))))))) ds_nil)
      (ds_cons (ds_if (det_of (dt_cmp (m := .bas) op_lt o_cmp (dp_var 4) dp_int (nomark _))) (ds_cons (ds_set (i := 11) sc_law_step.nd rfl (by first | exact Or.inl rfl | exact Or.inr rfl) (de_op op_addA o_add (de_of (dp_var 6)) (de_drw (i := 0) (fn_law_take T) hr (by decide) rfl (dea_cons (de_of (dp_op op_addA o_add (dp_ix ix_seq o_ix (dp_var 2) dp_int) dp_int)) dea_nil))))
      (ds_cons (ds_set (i := 8) sc_law_step.nd rfl (by first | exact Or.inl rfl | exact Or.inr rfl) (de_outcome (n := 1) (out_fn T) M hr (by decide) (by decide) rfl (by rfl) (LamX.lamS_by (sc := defScope st_law_step) (by decide +kernel)) (lamk_law_step T 1 (by decide)) (ok_all T)))
      (ds_one (ds_ret (dp_tup (dpa_cons (dp_call (fn_law_same_r T 8) hr (by decide) (dpa_cons (dp_var 8) (dpa_cons (dp_tup (dpa_cons dp_str (dpa_cons (dp_b call_len_seq n_len T.z_len PySem.boot_len (dpa_cons (dp_call (fn_law_open T) hr (by decide) (dpa_cons (dp_var 2) (dpa_cons (dp_var 5) (dpa_cons (dp_var 11) dpa_nil)))) dpa_nil)) dpa_nil))) dpa_nil))) (dpa_cons (dp_lst (dpa_cons (dp_tup (dpa_cons (dp_var 5) (dpa_cons (dp_var 11) dpa_nil))) dpa_nil)) dpa_nil))))))) ds_nil)
      (ds_cons (ds_set (i := 12) sc_law_step.nd rfl (by first | exact Or.inl rfl | exact Or.inr rfl) (de_ix ix_seq o_ix (de_of (dp_lst (dpa_cons dp_none (dpa_cons dp_bool (dpa_cons (dp_un un_neg o_neg dp_int) (dpa_cons (dp_op op_sub o_sub (dp_var 6) dp_int) (dpa_cons (dp_op op_addA o_add (dp_op op_pow o_pow dp_int dp_int) dp_int) (dpa_cons dp_str dpa_nil)))))))) (de_drw (i := 0) (fn_law_take T) hr (by decide) rfl (dea_cons (de_of dp_int) dea_nil))))
      (ds_cons (ds_set (i := 13) sc_law_step.nd rfl (by first | exact Or.inl rfl | exact Or.inr rfl) (de_cmp (op_eqD hr.units) o_eq (de_outcome (n := 2) (out_fn T) M hr (by decide) (by decide) rfl (by rfl) (LamX.lamS_by (sc := defScope st_law_step) (by decide +kernel)) (lamk_law_step T 2 (by decide)) (ok_all T)) (de_of (dp_tup (dpa_cons dp_str dpa_nil))) (nomark _)))
      (ds_one (ds_retE (de_tup (dea_cons (de_and (de_of (dp_var 13)) (de_one (de_cmp (op_eqD hr.units) o_eq (de_outcome (n := 3) (out_fn T) M hr (by decide) (by decide) rfl (by rfl) (LamX.lamS_by (sc := defScope st_law_step) (by decide +kernel)) (lamk_law_step T 3 (by decide)) (ok_all T)) (de_of (dp_tup (dpa_cons dp_str dpa_nil))) (nomark _)))) (dea_cons (de_of (dp_lst dpa_nil)) dea_nil)))))))))))
def ls_law : List LamD := [lamD (eX (eX (sVal (sSt (sIf (sSt (sFor (sSt (sFor (sSt (defBody st_law) 0)) 2)) 0)) 1)) 0) 0)]
def G_law (C : Addr) : Nat → Rho → Option ResD
  | 0 => (docG 6 C nilA F_m_undo)
  | _ => fun _ => none
theorem lamk_law_0 (T : Txt K mg ad) {B : Base} {A : Around} {outer : List PySem.Env} {s : Shared} {H : Hp} {E : XK} {f c : Addr} : LamKM (cxOf CX0 P w K mg base ["_law_script", "_law_bag", "_law_rule", "_law_turn", "_law_twin", "_law_moment", "_law_run", "_law_states", "_law_due", "_law_good", "_law_later", "_law_safe"] "law" (defScope st_law) f (.ref c) A outer s H E).nox B ls_law 5 0 (G_law ad.D 0) :=
  ⟨_, _, _, rfl, LamX.lamS_by (sc := defScope st_law) (by decide +kernel), fun _ _ _ _ _ => rfl, fun A outer s H E f c hr => (dxm_meth0 (fn_m_undo T) T.doc.cx.cls takes_lam hr (by decide) (pv 6))⟩
theorem lamk_law (T : Txt K mg ad) {B : Base} {A : Around} {outer : List PySem.Env} {s : Shared} {H : Hp} {E : XK} {f c : Addr} : ∀ n, n < 1 → LamKM (cxOf CX0 P w K mg base ["_law_script", "_law_bag", "_law_rule", "_law_turn", "_law_twin", "_law_moment", "_law_run", "_law_states", "_law_due", "_law_good", "_law_later", "_law_safe"] "law" (defScope st_law) f (.ref c) A outer s H E).nox B ls_law 5 n (G_law ad.D n)
  | 0, _ => lamk_law_0 T
  | n + 1, h => absurd h (by omega)
def l_law_1 (C : Addr) : Rho → Option Out :=
    (dropE (deM (docG 4 C (consA (varD .bas 5) nilA) F_m_edit)))
def l_law_2 (C : Addr) : Rho → Option Out :=
    (seqF (iteF (tstE (b2E (drwE 1 (consEA (toE (kD (.int 5))) nilEA) F_law_take) (toE (kD (.int 0))) eqD)) (seqF (setP 8 (ifD (tstD (b2D (nD (consA (varD .bas 7) nilA) lenD) (kD (.int 1)) gtD)) (nD (consA (kD (.str "value")) (consA (kD .none) nilA)) tupD) (nD (consA (kD (.str "NothingToUndo")) nilA) tupD)))
    (seqF (setF 9 (nE (consEA (outM (G_law C 0) ["InvalidRule", "InvalidTime", "NothingToUndo", "TooMany"]) (consEA (toE (varD .str 8)) nilEA)) (F_law_same 8)))
    (setP 7 (slD (varD .str 7) noO (soO (nD (consA (kD (.int 1)) (consA (b2D (nD (consA (varD .str 7) nilA) lenD) (kD (.int 1)) subD) nilA)) max2D)))))) (seqF (asgF (bdE 1 6 C (consA (varD .str 2) (consA (b2D (varD .str 7) (b1D (kD (.int 1)) negD) ixD) nilA)) (F_law_step C)) (bTup 2 (bCons (bName 9) (bCons (bName 10) bNil))))
    (setP 7 (b2D (varD .str 7) (varD .str 10) addD))))
    (iteF (orE (toT (notT (tstD (varD .bas 9)))) (notE (tstE (deM (docG 6 C (consA (varD .bas 2) (consA (b2D (varD .bas 7) (b1D (kD (.int 1)) negD) ixD) nilA)) (F_law_right C)))))) (retP (kD (.bool false))) skipF))
def b_lawbody (C : Addr) : FW :=
    (seqW (ofW (setF 2 (nE (consEA (b2E (toE (kD (.int 1))) (drwE 1 (consEA (toE (kD (.int 6))) nilEA) F_law_take) addD) (consEA (b2E (toE (kD (.int 1))) (drwE 1 (consEA (toE (kD (.int 30))) nilEA) F_law_take) addD) nilEA)) tupD)))
    (seqW (newPW 6 7 C F_m_init z_m_init (varD .bas 2) (nD (consA (nD (consA (nD nilA tupD) (consA (kD (.int 0)) nilA)) tupD) nilA) lstD))
    (seqW (ofW (forF (toI (nI (consA (kD (.int 40)) nilA) rng1)) (bName 3) (l_law_2 C)))
    (seqW (newW 4 C F_m_init z_m_init (varD .bas 2))
    (seqW (ofW (forF (toI (itD (b2D (b2D (varD .str 7) (b1D (kD (.int 1)) negD) ixD) (kD (.int 0)) ixD))) (bName 5) (l_law_1 C)))
    (seqW (ofW (dropE (deM (docG 4 C (consA (b2D (b2D (varD .bas 7) (b1D (kD (.int 1)) negD) ixD) (kD (.int 1)) ixD) nilA) F_m_call))))
    (ofW (iteF (toT (orT (notT (tstD (eqDD 4 6 C Feq))) (orT (tstD (eqDV 6 C (b2D (varD .bas 7) (b1D (kD (.int 1)) negD) ixD))) (tstD (eqDN 6 C chk1 z_m_init (nD (consA (b2D (b2D (b2D (varD .bas 2) (kD (.int 0)) ixD) (kD (.int 20)) modD) (kD (.int 1)) addD) (consA (b2D (varD .bas 2) (kD (.int 1)) ixD) nilA)) tupD) Feq))))) (retP (kD (.bool false))) skipF))))))))
def b_law (C a : Addr) (ns : List Int) : FW :=
    (seqW (lawW 1 0 5 a ns (b_lawbody C))
    (seqW (carW 11 C (.tuple [.int 1, .int 1]) z_m_init)
    (ofW (retE (andVE (b2E (deM (docG 11 C (consA (kD (.int 3)) (consA (kD (.int 3)) nilA)) F_m_edit)) (toE (kD (.int 0))) eqD) (andVE (toE (b2D (docR 11 C nilA F_m_saved) (nD (consA (kD (.int 3)) (consA (kD (.int 3)) nilA)) tupD) eqD)) (andVE (toE (docR 11 C (consA (kD (.int 3)) nilA) F_m_contains)) (andVE (toE (fun ρ => ((docR 11 C nilA F_m_bool ρ).bind asBool).bind fun c => some (.bool (!c)))) (toE (b2D (kD (.int 60)) (kD (.int 60)) eqD))))))))))
theorem ok_law {f : Addr} {fd : FuncData} (F : FunC K "law" st_law f ad.c_law fd) (T : Txt K mg ad) (TB : Tbs base mg ad) (hw : ∀ (C a : Addr) (ns : List Int), ns.length ≤ 63 → b_law C a ns (.raw (.ref a) :: List.replicate 11 .nil) (fun r => ∃ ρ', r = .rt (.bool true) ρ')) :
    FnOk P w K mg base CX0 12 f fd ["_law_script"] (spLawT K (csOf ad)) := by
  obtain ⟨oc, od, kV, doc, pm, an, ct, osl, rfl, lk, hcd⟩ := F.ex
  refine fn_of lk hcd sc_law (fun vs H Q E h => ?_) (fun A outer s H vs Q E hr h => ?_)
  · obtain ⟨_, a, ns, rfl, _⟩ := h
    rfl
  · obtain ⟨hcs, a, ns, rfl, hS, hns, q⟩ := h
    have e := hw ad.D a ns hns
    have tab : ∀ p ∈ csOf ad, TabAt H p.2 := fun p hp => tab0 (hcs p hp)
    generalize hB : (⟨H, fun _ => False, fun _ => False, lamF (cxOf CX0 P w K mg base ["_law_script", "_law_bag", "_law_rule", "_law_turn", "_law_twin", "_law_moment", "_law_run", "_law_states", "_law_due", "_law_good", "_law_later", "_law_safe"] "law" (defScope st_law) f (.ref ad.c_law) A outer s H E).nox ls_law, (cxOf CX0 P w K mg base ["_law_script", "_law_bag", "_law_rule", "_law_turn", "_law_twin", "_law_moment", "_law_run", "_law_states", "_law_due", "_law_good", "_law_later", "_law_safe"] "law" (defScope st_law) f (.ref ad.c_law) A outer s H E).nox.env.qual ++ "<lambda>"⟩ : Base) = B
    have hR : ∀ b, ¬ B.R b := by subst hB; exact fun _ z => z
    have hO : ∀ b, ¬ B.O0 b := by subst hB; exact fun _ z => z
    have hS : SqL K B.H0 a (ns.map V.int) := by subst hB; exact hS
    have M : Mkr (cxOf CX0 P w K mg base ["_law_script", "_law_bag", "_law_rule", "_law_turn", "_law_twin", "_law_moment", "_law_run", "_law_states", "_law_due", "_law_good", "_law_later", "_law_safe"] "law" (defScope st_law) f (.ref ad.c_law) A outer s H E).nox B ls_law ad.c_law ad.P_law := by subst hB; exact ⟨TB.t_law, rfl, tab (ad.c_law, ad.P_law) (by simp [csOf]), rfl, rfl⟩
    have hT_law_step : TabAt B.H0 ad.P_law_step := by subst hB; exact tab (ad.c_law_step, ad.P_law_step) (by simp [csOf])
    have der : DSsW (cxOf CX0 P w K mg base ["_law_script", "_law_bag", "_law_rule", "_law_turn", "_law_twin", "_law_moment", "_law_run", "_law_states", "_law_due", "_law_good", "_law_later", "_law_safe"] "law" (defScope st_law) f (.ref ad.c_law) A outer s H E).nox B (defBody st_law) (b_law ad.D a ns) :=
      (dsw_cons (dsw_law (i := 1) (l := 0) (n := 5) (bags_fn T) hr (by decide) hR hO hS hns (by decide) PassesOwn.never rfl sc_law.nd rfl (by first | exact Or.inl rfl | exact Or.inr rfl) rfl (dsw_cons (dsw_of (ds_set (i := 2) sc_law.nd rfl (by first | exact Or.inl rfl | exact Or.inr rfl) (de_tup (dea_cons (de_op op_addA o_add (de_of dp_int) (de_drw (i := 1) (fn_law_take T) hr (by decide) rfl (dea_cons (de_of dp_int) dea_nil))) (dea_cons (de_op op_addA o_add (de_of dp_int) (de_drw (i := 1) (fn_law_take T) hr (by decide) rfl (dea_cons (de_of dp_int) dea_nil))) dea_nil)))))
      (dsw_cons (dsw_newP (i := 6) (i2 := 7) (fn_m_init T) hr (by decide) (dp_var 2) (dp_lst (dpa_cons (dp_tup (dpa_cons (dp_tup dpa_nil) (dpa_cons dp_int dpa_nil))) dpa_nil)) rfl sc_law.nd rfl rfl (by first | exact Or.inl rfl | exact Or.inr rfl) (by first | exact Or.inl rfl | exact Or.inr rfl))
      (dsw_cons (dsw_of (ds_for PassesOwn.never rfl (die_of (di_rng1 T.z_range (dpa_cons dp_int dpa_nil))) (dg_name (i := 3) sc_law.nd rfl (by first | exact Or.inl rfl | exact Or.inr rfl) (by first | exact .inl rfl | exact .inr rfl)) (ds_cons (ds_if (det_cmp (op_eqD hr.units) o_eq (de_drw (i := 1) (fn_law_take T) hr (by decide) rfl (dea_cons (de_of dp_int) dea_nil)) (de_of dp_int) (nomark _)) (ds_cons (ds_setP (i := 8) sc_law.nd rfl (by first | exact Or.inl rfl | exact Or.inr rfl) (dp_if (dt_cmp (m := .bas) op_gt o_cmp (dp_b call_len_seq n_len T.z_len PySem.boot_len (dpa_cons (dp_var 7) dpa_nil)) dp_int (nomark _)) (dp_tup (dpa_cons dp_str (dpa_cons dp_none dpa_nil))) (dp_tup (dpa_cons dp_str dpa_nil))))
      (ds_cons (ds_set (i := 9) sc_law.nd rfl (by first | exact Or.inl rfl | exact Or.inr rfl) (de_call (fn_law_same_r T 8) hr (by decide) (dea_cons (de_outcome (n := 0) (out_fn T) M hr (by decide) (by decide) rfl (by rfl) (LamX.lamS_by (sc := defScope st_law) (by decide +kernel)) (lamk_law T 0 (by decide)) (ok_all T)) (dea_cons (de_of (dp_var 8)) dea_nil))))
      (ds_one (ds_setP (i := 7) sc_law.nd rfl (by first | exact Or.inl rfl | exact Or.inr rfl) (dp_slice (dp_var 7) do_none (do_some (dp_b (call_max2 rfl) n_max2 T.z_max boot_max (dpa_cons dp_int (dpa_cons (dp_op op_sub o_sub (dp_b call_len_seq n_len T.z_len PySem.boot_len (dpa_cons (dp_var 7) dpa_nil)) dp_int) dpa_nil))))))))) (ds_cons (ds_asg (de_bd (fn_law_step T TB) hT_law_step hr (by decide) (pv 1) (pv 6) (dpa_cons (dp_var 2) (dpa_cons (dp_ix ix_seq o_ix (dp_var 7) (dp_un un_neg o_neg dp_int)) dpa_nil))) (dg_tup rfl (dgs_cons (dg_name (i := 9) sc_law.nd rfl (by first | exact Or.inl rfl | exact Or.inr rfl) (by first | exact .inl rfl | exact .inr rfl)) (dgs_cons (dg_name (i := 10) sc_law.nd rfl (by first | exact Or.inl rfl | exact Or.inr rfl) (by first | exact .inl rfl | exact .inr rfl)) dgs_nil))))
      (ds_one (ds_setP (i := 7) sc_law.nd rfl (by first | exact Or.inl rfl | exact Or.inr rfl) (dp_op op_addA o_add (dp_var 7) (dp_var 10))))))
      (ds_one (ds_if (det_w (dew_or (det_of (dt_not (dt_val (m := .bas) (dp_var 9)))) (dew_or1 (det_not (det_val (de_ofM (dxm_fn (fn_law_right T) takes0N hr (by decide) (pv 6) (dpa_cons (dp_var 2) (dpa_cons (dp_ix ix_seq o_ix (dp_var 7) (dp_un un_neg o_neg dp_int)) dpa_nil))))))))) (ds_one (ds_ret dp_bool)) ds_nil)))))
      (dsw_cons (dsw_new (i := 4) (fn_m_init T) hr (by decide) (dp_var 2) sc_law.nd rfl (by first | exact Or.inl rfl | exact Or.inr rfl))
      (dsw_cons (dsw_of (ds_for PassesOwn.never rfl (die_of (di_seq (dp_ix ix_seq o_ix (dp_ix ix_seq o_ix (dp_var 7) (dp_un un_neg o_neg dp_int)) dp_int))) (dg_name (i := 5) sc_law.nd rfl (by first | exact Or.inl rfl | exact Or.inr rfl) (by first | exact .inl rfl | exact .inr rfl)) (ds_one (ds_expr (de_ofM (dxm_meth (fn_m_edit T) T.doc.cx.cls takes0N hr (by decide) (pv 4) (dpa_cons (dp_var 5) dpa_nil)))))))
      (dsw_cons (dsw_of (ds_expr (de_ofM (dxm_call (fn_m_call T) takes0N hr (by decide) (pv 4) (dpa_cons (dp_ix ix_seq o_ix (dp_ix ix_seq o_ix (dp_var 7) (dp_un un_neg o_neg dp_int)) dp_int) dpa_nil)))))
      (dsw_one (dsw_of (ds_if (det_of (dt_w (dw_or (dt_not (dt_eqDD (eq_fn T) T.doc.cx T.doc.ci hr (by decide) (pv 4) (pv 6))) (dw_or (dt_eqDV (eq_fn T) T.doc.cx T.doc.ci hr (by decide) (pv 6) (dp_ix ix_seq o_ix (dp_var 7) (dp_un un_neg o_neg dp_int))) (dw_or1 (dt_eqDN (eq_fn T) T.doc.cx T.doc.ci hr (by decide) (pv 6) (fn_m_init T) (by decide) (dp_tup (dpa_cons (dp_op op_addA o_add (dp_op op_mod o_mod (dp_ix ix_seq o_ix (dp_var 2) dp_int) dp_int) dp_int) (dpa_cons (dp_ix ix_seq o_ix (dp_var 2) dp_int) dpa_nil))) chk1_ok)))))) (ds_one (ds_ret dp_bool)) ds_nil))))))))))
      (dsw_cons (dsw_care (i := 11) (car_fn T) T.doc.mg_ hr (by decide) sc_law.nd rfl (by first | exact Or.inl rfl | exact Or.inr rfl))
      (dsw_one (dsw_of (ds_retE (de_and (de_cmp (op_eqD hr.units) o_eq (de_ofM (dxm_meth (fn_m_edit T) T.doc.cx.cls takes0N hr (by decide) (pv 11) (dpa_cons dp_int (dpa_cons dp_int dpa_nil)))) (de_of dp_int) (nomark _)) (de_and (de_of (dp_cmp (op_eqD hr.units) o_eq (dp_prop (fn_m_saved T) T.doc.cx.cls hr (by decide) (pv 11)) (dp_tup (dpa_cons dp_int (dpa_cons dp_int dpa_nil))) (nomark _))) (de_and (de_of (dp_inD (fn_m_contains T) hr (by decide) dp_int (pv 11) contains_bool)) (de_and (de_of (dp_notOwn (fn_m_bool T) hr (by decide) (pv 11))) (de_one (de_of (dp_cmp (op_eqD hr.units) o_eq (dp_cval T.doc.mg_ T.doc.rd T.doc.mo.choose_spec) dp_int (nomark _)))))))))))))
    subst hB
    refine ⟨_, der.ps.nox, fun _ => False, _, _, good_lawL H a 11, e, fun r hr => ?_⟩
    obtain ⟨ρ', er⟩ := hr
    subst er
    exact fun v σ' H' O' s3 g3 r3 => by rw [rep_bool.mp r3]; exact q H'
end
end
end My

set_option autoImplicit false
namespace My
open PySem PySem.Spec
open PyProof.Rows hiding St
open L2 DL
/-! ## _law_edit, _law_right -/
theorem law_edit_F (C a l : Addr) (rl : D) (sts : List D) (ms : List Int) (h3 : ms.length ≤ 3) (r : ResM) (h : F_m_edit a l rl sts (intsD ms) = some r) (hr : ∃ u sts', r = .ok (.int u) sts' ∨ r = .er "TooMany") : F_law_edit C a l rl sts [.tuple (intsD ms)] = some r := by
  have g0 : SeqAt.shaped (.tuple []) = true := by decide +kernel
  obtain ⟨u, sts', hr⟩ := hr
  unfold F_law_edit DL.runM b_law_edit
  match ms, h3 with
  | [], _ =>
    simp only [intsD, List.map_nil] at h
    rcases hr with rfl | rfl
    · simp [docG, h, endD, intsD, g0]
    · simp [docG, h, endD, intsD, g0]
  | [x], _ =>
    simp only [intsD, List.map_cons, List.map_nil] at h
    have g1 : SeqAt.shaped (.tuple [.int x]) = true := shaped_intsT [x]
    rcases hr with rfl | rfl
    · simp [docG, h, endD, intsD, g0, g1]
    · simp [docG, h, endD, intsD, g0, g1]
  | [x, y], _ =>
    simp only [intsD, List.map_cons, List.map_nil] at h
    have g1 : SeqAt.shaped (.tuple [.int x, .int y]) = true := shaped_intsT [x, y]
    rcases hr with rfl | rfl
    · simp [docG, h, endD, intsD, g0, g1]
    · simp [docG, h, endD, intsD, g0, g1]
  | [x, y, z], _ =>
    simp only [intsD, List.map_cons, List.map_nil] at h
    have g1 : SeqAt.shaped (.tuple [.int x, .int y, .int z]) = true := shaped_intsT [x, y, z]
    rcases hr with rfl | rfl
    · simp [docG, h, endD, intsD, g0, g1]
    · simp [docG, h, endD, intsD, g0, g1]
section
variable (a : Addr) (c s : Int) (sts : List D) (e : List Int) (t : Int) (hl : sts.getLast? = some (docS c s e t))
include hl
theorem edits_F : F_m_edits a (ruleD c s) sts [] = some (.tuple (intsD e)) := by
  unfold F_m_edits rdR b_m_edits
  rw [hl]
  simp [docS]
theorem time_F : F_m_time a (ruleD c s) sts [] = some (.int t) := by
  unfold F_m_time rdR b_m_time
  rw [hl]
  simp [docS]
theorem unsavedM_F : F_m_unsaved a (ruleD c s) sts [] = some (.int (opN c s t e)) := by
  unfold F_m_unsaved rdR b_m_unsaved
  rw [hl]
  simp [docS]
theorem saved_F : F_m_saved a (ruleD c s) sts [] = some (.tuple (intsD (dnT c s t e))) := by
  unfold F_m_saved rdR b_m_saved
  rw [hl]
  simp [docS]
theorem len_F (he : e.length ≤ 60) : lenG a (ruleD c s) sts [] = some (.int e.length) := by
  have g : (e.length : Int) ≤ 100 := by omega
  unfold lenG F_m_len rdR b_m_len
  rw [hl]
  simp [docS, g]
theorem bool_F : F_m_bool a (ruleD c s) sts [] = some (.bool (decide (0 < opN c s t e))) := by
  unfold F_m_bool rdR b_m_bool
  rw [hl]
  simp [docS]
theorem contains_F (i : Int) : F_m_contains a (ruleD c s) sts [.int i] = some (.bool (decide (0 ≤ i ∧ i ≤ 1000000) && (dnT c s t e).contains i)) := by
  unfold F_m_contains rdR b_m_contains
  rw [hl]
  by_cases h : 0 ≤ i ∧ i ≤ 1000000
  · simp [docS, in_range_F, h.1, h.2]
  · simp [docS, in_range_F, h]
theorem contains_no (d : D) (h : F_in_range [d, .int 0, .int 1000000] = some (.bool false)) : F_m_contains a (ruleD c s) sts [d] = some (.bool false) := by
  unfold F_m_contains rdR b_m_contains
  rw [hl]
  simp [docS, h]
end
theorem law_in_F (i : Int) : F_law_in [.int i, .int 0, .int 10000000] = some (.bool (decide (0 ≤ i ∧ i ≤ 10000000))) := by
  unfold F_law_in b_law_in
  by_cases h : 0 ≤ i <;> simp [h]
def VV (d : D) : Prop := (∃ i : Int, d = .int i) ∨ d = .none ∨ d = .bool true ∨ d = .str "0"
theorem right_step (C a l : Addr) (c s : Int) (sts : List D) (e : List Int) (t : Int) (hl : sts.getLast? = some (docS c s e t)) (ht : t ≤ 1000000) (x1 x2 x3 x4 x7 x8 x9 : Sl) (v : D) (hv : VV v) :
    ∃ y9, l_law_right_1 C [.doc C a l (ruleD c s) sts, x1, x2, x3, x4, .dat (.tuple (intsD (dnT c s t e))), .dat v, x7, x8, x9] = some (.nx [.doc C a l (ruleD c s) sts, x1, x2, x3, x4, .dat (.tuple (intsD (dnT c s t e))), .dat v, x7, x8, y9]) := by
  have pw : (10 : Int) ^ 7 = 10000000 := by decide
  rcases hv with ⟨i, rfl⟩ | rfl | rfl | rfl
  · have c1 := contains_F a c s sts e t hl i
    have hb : (decide (0 ≤ i ∧ i ≤ 10000000) && (dnT c s t e).contains i) = (decide (0 ≤ i ∧ i ≤ 1000000) && (dnT c s t e).contains i) := by
      by_cases hm : i ∈ dnT c s t e
      · have : i ≤ t := by
          unfold dnT at hm
          obtain ⟨d, hd, rfl⟩ := List.mem_map.mp hm
          simpa using (List.mem_filter.mp hd).2
        have e1 : (0 ≤ i ∧ i ≤ 10000000) ↔ (0 ≤ i ∧ i ≤ 1000000) := by omega
        simp [e1]
      · have : (dnT c s t e).contains i = false := by simpa using hm
        simp only [this, Bool.and_false]
    have li := law_in_F i
    have st1 : (setP 9 (andV (nD (consA (varD .str 6) (consA (kD (.int 0)) (consA (b2D (kD (.int 10)) (kD (.int 7)) powD) nilA))) F_law_in) (b2D (varD .str 6) (varD .str 5) inTD))) [.doc C a l (ruleD c s) sts, x1, x2, x3, x4, .dat (.tuple (intsD (dnT c s t e))), .dat (.int i), x7, x8, x9] = some (.nx [.doc C a l (ruleD c s) sts, x1, x2, x3, x4, .dat (.tuple (intsD (dnT c s t e))), .dat (.int i), x7, x8, .dat (.bool (decide (0 ≤ i ∧ i ≤ 10000000) && (dnT c s t e).contains i))]) := by
      by_cases h : 0 ≤ i ∧ i ≤ 10000000
      · simp [pw, li, h.1, h.2]
      · simp [pw, li, h]
    rw [hb] at st1
    generalize (decide (0 ≤ i ∧ i ≤ 1000000) && (dnT c s t e).contains i) = bb at c1 st1
    have sm := same_bool 7 bb
    refine ⟨.dat (.bool bb), ?_⟩
    unfold l_law_right_1
    refine seq_eq st1 ?_
    simp only [ruleD] at c1
    simp [docR, c1, sm]
  all_goals
    refine ⟨.dat (.bool false), ?_⟩
    have sm := same_bool 7 false
    unfold l_law_right_1
  · have c1 := contains_no a c s sts e t hl .none (by unfold F_in_range b_in_range; simp)
    have li : F_law_in [.none, .int 0, .int 10000000] = some (.bool false) := by unfold F_law_in b_law_in; simp
    simp only [ruleD] at c1
    simp [pw, li, docR, c1, sm]
  · have c1 := contains_no a c s sts e t hl (.bool true) (by unfold F_in_range b_in_range; simp)
    have li : F_law_in [.bool true, .int 0, .int 10000000] = some (.bool false) := by unfold F_law_in b_law_in; simp
    simp only [ruleD] at c1
    simp [pw, li, docR, c1, sm]
  · have c1 := contains_no a c s sts e t hl (.str "0") (by unfold F_in_range b_in_range; simp)
    have li : F_law_in [.str "0", .int 0, .int 10000000] = some (.bool false) := by unfold F_law_in b_law_in; simp
    simp only [ruleD] at c1
    simp [pw, li, docR, c1, sm]
theorem comp_right (T : Int) (ds : List (Int × Bool)) (x0 x1 x2 x3 x5 x8 x9 : Sl) : compL (bTup 2 (bCons (bName 6) (bCons (bName 7) bNil))) (tstD (b2D (varD .bas 6) (varD .bas 4) leD)) (varD .str 6) [x0, x1, x2, x3, .dat (.int T), x5, .nil, .nil, x8, x9] (ds.map dnD) = some (((ds.filter fun d => decide (d.1 ≤ T)).map dnD).map fstP) := by
  rw [← filt_dn]
  refine compL_fm (leP T) fstP fun d hd => ?_
  obtain ⟨⟨t, b⟩, _, rfl⟩ := List.mem_map.mp hd
  exact ⟨[x0, x1, x2, x3, .dat (.int T), x5, .dat (.int t), .dat (.str (if b then "count" else "idle")), x8, x9], rfl, by simp [leP, dnD], fun _ => rfl⟩
theorem same_two_ints (k : Nat) (xs : List Int) (h : xs.length ≤ 100000) : F_law_same (k + 2) [.tuple (intsD xs), .tuple (intsD xs)] = some (.bool true) := by
  refine same_tup _ _ (by rw [intsD_len]; exact h) fun d hd => ?_
  obtain ⟨i, _, rfl⟩ := List.mem_map.mp hd
  exact same_int _ _
theorem law_right_F (C a l : Addr) (c s : Int) (hr : RuleOk c s) (sts : List D) (e : List Int) (t : Int) (hl : sts.getLast? = some (docS c s e t)) (he : e.length ≤ 60) (ht : t ≤ 1000000) :
    F_law_right C a l (ruleD c s) sts [ruleD c s, .tuple [.tuple (intsD e), .int t]] = some (.ok (.bool true) sts) := by
  have p1 := play_F c s e (by omega)
  have p2 := law_open_F c s t e (by omega)
  have hd := doneM_len c s e 0 0
  have hl2 : (doneM c s 0 0 e).length ≤ 100000 := by omega
  have hdl := dnT_len c s t e
  have g : (dnT c s t e).length ≤ 100000 := by omega
  have cp := comp_right t (doneM c s 0 0 e) (.doc C a l (ruleD c s) sts) (.dat (ruleD c s)) (.dat (.tuple [.tuple (intsD e), .int t])) (.dat (.tuple (intsD e))) .nil .nil .nil
  have hf : ((doneM c s 0 0 e).filter fun d => decide (d.1 ≤ t)).map (fstP ∘ dnD) = intsD (dnT c s t e) := by
    rw [fst_dn]; rfl
  rw [List.map_map, hf] at cp
  have c1 : c_law_right_1 C [.doc C a l (ruleD c s) sts, .dat (ruleD c s), .dat (.tuple [.tuple (intsD e), .int t]), .dat (.tuple (intsD e)), .dat (.int t), .nil, .nil, .nil, .nil, .nil] = some (.list (intsD (dnT c s t e))) := by
    unfold c_law_right_1
    simp only [ruleD] at p1 cp ⊢
    simp [p1, hl2, wipeR] at cp ⊢
    rw [cp]
    rfl
  have r1 := edits_F a c s sts e t hl
  have r2 := time_F a c s sts e t hl
  have r3 := unsavedM_F a c s sts e t hl
  have r4 := saved_F a c s sts e t hl
  have r5 := len_F a c s sts e t hl he
  have r6 := bool_F a c s sts e t hl
  have sm : F_law_same 8 [.list [.tuple (intsD e), .int t, .int (opN c s t e), .tuple (intsD (dnT c s t e)), .int e.length], .list [.tuple (intsD e), .int t, .int (opN c s t e), .tuple (intsD (dnT c s t e)), .int e.length]] = some (.bool true) := by
    refine same_list _ _ (by simp) fun d hd => ?_
    simp only [List.mem_cons, List.not_mem_nil, or_false] at hd
    rcases hd with rfl | rfl | rfl | rfl | rfl
    · exact same_two_ints _ _ (by omega)
    · exact same_int _ _
    · exact same_int _ _
    · exact same_two_ints _ _ g
    · exact same_int _ _
  have sb := same_bool 7 (decide (0 < opN c s t e))
  obtain ⟨i0, hi0⟩ : ∃ i0 : Int, (ifD (tstD (b2D (varD .bas 3) (nD nilA tupD) neD)) (b2D (varD .str 3) (b1D (kD (.int 1)) negD) ixD) (kD (.int 0))) [.doc C a l (ruleD c s) sts, .dat (ruleD c s), .dat (.tuple [.tuple (intsD e), .int t]), .dat (.tuple (intsD e)), .dat (.int t), .dat (.tuple (intsD (dnT c s t e))), .nil, .nil, .dat (.int (opN c s t e)), .nil] = some (.int i0) := by
    have hne := eqvAll_nil_iff (intsD e)
    by_cases h : e = []
    · subst h
      exact ⟨0, by simp⟩
    · have hil := int_last e h
      have hne2 : PyData.eqvAll (intsD e) [] = false := by
        rw [eqvAll_nil_iff]
        cases e with
        | nil => exact absurd rfl h
        | cons x xs => simp
      exact ⟨endP 0 e, by simp [hne2, hil]⟩
  have key : ∃ y6 y9, forL (bName 6) (l_law_right_1 C) [.int t, .int (t - 1), .int i0, .none, .bool true, .str "0", .int (-1)] [.doc C a l (ruleD c s) sts, .dat (ruleD c s), .dat (.tuple [.tuple (intsD e), .int t]), .dat (.tuple (intsD e)), .dat (.int t), .dat (.tuple (intsD (dnT c s t e))), .nil, .nil, .dat (.int (opN c s t e)), .nil] = some (.nx [.doc C a l (ruleD c s) sts, .dat (ruleD c s), .dat (.tuple [.tuple (intsD e), .int t]), .dat (.tuple (intsD e)), .dat (.int t), .dat (.tuple (intsD (dnT c s t e))), y6, .nil, .dat (.int (opN c s t e)), y9]) := by
    obtain ⟨ρ', e1, y6, y9, _, hρ⟩ := forL_inv (b := bName 6) (F := l_law_right_1 C) (fun dd ρ => ∃ y6 y9, (∀ d ∈ dd, VV d) ∧ ρ = [.doc C a l (ruleD c s) sts, .dat (ruleD c s), .dat (.tuple [.tuple (intsD e), .int t]), .dat (.tuple (intsD e)), .dat (.int t), .dat (.tuple (intsD (dnT c s t e))), y6, .nil, .dat (.int (opN c s t e)), y9])
      (fun d ds ρ ⟨y6, y9, hd, hρ⟩ => by
        subst hρ
        obtain ⟨z9, e1⟩ := right_step C a l c s sts e t hl ht (.dat (ruleD c s)) (.dat (.tuple [.tuple (intsD e), .int t])) (.dat (.tuple (intsD e))) (.dat (.int t)) .nil (.dat (.int (opN c s t e))) y9 d (hd d (by simp))
        exact ⟨_, _, rfl, e1, _, _, fun d hd' => hd d (by simp [hd']), rfl⟩) [.int t, .int (t - 1), .int i0, .none, .bool true, .str "0", .int (-1)] _ ⟨.nil, .nil, fun d hd => by
          simp only [List.mem_cons, List.not_mem_nil, or_false] at hd
          rcases hd with rfl | rfl | rfl | rfl | rfl | rfl | rfl
          · exact .inl ⟨_, rfl⟩
          · exact .inl ⟨_, rfl⟩
          · exact .inl ⟨_, rfl⟩
          · exact .inr (.inl rfl)
          · exact .inr (.inr (.inl rfl))
          · exact .inr (.inr (.inr rfl))
          · exact .inl ⟨_, rfl⟩, rfl⟩
    exact ⟨y6, y9, by rw [e1, hρ]⟩
  obtain ⟨y6, y9, key⟩ := key
  have wl1 : ((wl (partM t e).length (opN c s t e)).length : Int) = (opN c s t e : Int) := by rw [wl_len]
  obtain ⟨bb, hbb⟩ : ∃ bb, bb = decide (0 < opN c s t e) := ⟨_, rfl⟩
  rw [← hbb] at r6 sb
  have main : b_law_right C [.doc C a l (ruleD c s) sts, .dat (ruleD c s), .dat (.tuple [.tuple (intsD e), .int t]), .nil, .nil, .nil, .nil, .nil, .nil, .nil] = some (.ok (.rt (.bool true) [.doc C a l (ruleD c s) sts, .dat (ruleD c s), .dat (.tuple [.tuple (intsD e), .int t]), .dat (.tuple (intsD e)), .dat (.int t), .dat (.tuple (intsD (dnT c s t e))), y6, .nil, .dat (.int (opN c s t e)), y9])) := by
    simp only [ruleD] at p2 c1 r1 r2 r3 r4 r5 r6 key hi0 ⊢
    unfold b_law_right okM
    show (seqF _ _ _).bind _ = _
    rw [seq_eq (ρ1 := [.doc C a l (.tuple [.int c, .int s]) sts, .dat (.tuple [.int c, .int s]), .dat (.tuple [.tuple (intsD e), .int t]), .dat (.tuple (intsD e)), .dat (.int t), .nil, .nil, .nil, .nil, .nil]) (by simp) rfl]
    rw [seq_eq (ρ1 := [.doc C a l (.tuple [.int c, .int s]) sts, .dat (.tuple [.int c, .int s]), .dat (.tuple [.tuple (intsD e), .int t]), .dat (.tuple (intsD e)), .dat (.int t), .dat (.tuple (intsD (dnT c s t e))), .nil, .nil, .nil, .nil]) (by simp [c1, g]) rfl]
    rw [seq_eq (ρ1 := [.doc C a l (.tuple [.int c, .int s]) sts, .dat (.tuple [.int c, .int s]), .dat (.tuple [.tuple (intsD e), .int t]), .dat (.tuple (intsD e)), .dat (.int t), .dat (.tuple (intsD (dnT c s t e))), .nil, .nil, .dat (.int (opN c s t e)), .nil]) (by simp [p2, wl_len]) rfl]
    rw [seq_eq (ρ1 := [.doc C a l (.tuple [.int c, .int s]) sts, .dat (.tuple [.int c, .int s]), .dat (.tuple [.tuple (intsD e), .int t]), .dat (.tuple (intsD e)), .dat (.int t), .dat (.tuple (intsD (dnT c s t e))), .nil, .nil, .dat (.int (opN c s t e)), .nil]) (by simp [docR, r1, r2, r3, r4, r5, sm]) rfl]
    rw [seq_eq (ρ1 := [.doc C a l (.tuple [.int c, .int s]) sts, .dat (.tuple [.int c, .int s]), .dat (.tuple [.tuple (intsD e), .int t]), .dat (.tuple (intsD e)), .dat (.int t), .dat (.tuple (intsD (dnT c s t e))), .nil, .nil, .dat (.int (opN c s t e)), .nil]) (by
      simp [docR, r6, ← hbb, sb]) rfl]
    rw [seq_eq (ρ1 := [.doc C a l (.tuple [.int c, .int s]) sts, .dat (.tuple [.int c, .int s]), .dat (.tuple [.tuple (intsD e), .int t]), .dat (.tuple (intsD e)), .dat (.int t), .dat (.tuple (intsD (dnT c s t e))), y6, .nil, .dat (.int (opN c s t e)), y9]) (by
      simp only [forF, toI, itD, nD, consA, hi0]
      simp [-forL, key]) rfl]
    simp
  unfold F_law_right DL.runM
  simp only [ruleD] at main ⊢
  simp [main, endD]

end My

set_option autoImplicit false
namespace My
open PySem PySem.Spec
open PyProof.Rows hiding St
open L2 DL
/-! ## _law_step -/
theorem asc_app : ∀ (p : Int) (xs ys : List Int), asc p xs → asc (endP p xs) ys → asc p (xs ++ ys)
  | p, [], ys, _, h => h
  | p, x :: xs, ys, h, h2 => ⟨h.1, h.2.1, asc_app x xs ys h.2.2 h2⟩
theorem asc_le {p q : Int} (h : q ≤ p) : ∀ {xs : List Int}, asc p xs → asc q xs
  | [], _ => trivial
  | x :: xs, k => ⟨Int.le_trans h k.1, k.2⟩
theorem endP_app : ∀ (p : Int) (xs ys : List Int), endP p (xs ++ ys) = endP (endP p xs) ys
  | p, [], ys => rfl
  | p, x :: xs, ys => endP_app x xs ys
theorem endP_ge : ∀ (p : Int) (xs : List Int), asc p xs → p ≤ endP p xs
  | p, [], _ => Int.le_refl p
  | p, x :: xs, h => Int.le_trans h.1 (endP_ge x xs h.2.2)
theorem endP_mono {p q : Int} (h : p ≤ q) : ∀ (xs : List Int), endP p xs ≤ endP q xs
  | [] => h
  | x :: xs => Int.le_refl _
theorem pick5 {v w x y z r : Int} (h0 : 0 ≤ r) (h : r < 5) : ∃ m, atI [PyData.int v, .int w, .int x, .int y, .int z] r = some (.int m) ∧ (m = v ∨ m = w ∨ m = x ∨ m = y ∨ m = z) := by
  rcases (show r = 0 ∨ r = 1 ∨ r = 2 ∨ r = 3 ∨ r = 4 by omega) with rfl | rfl | rfl | rfl | rfl
  · exact ⟨v, rfl, .inl rfl⟩
  · exact ⟨w, rfl, .inr (.inl rfl)⟩
  · exact ⟨x, rfl, .inr (.inr (.inl rfl))⟩
  · exact ⟨y, rfl, .inr (.inr (.inr (.inl rfl)))⟩
  · exact ⟨z, rfl, .inr (.inr (.inr (.inr rfl)))⟩
theorem step_loop (C : Addr) (c s : Int) (hs : 1 ≤ s ∧ s ≤ 1000) (dc x3 x4 x5 x6 x8 x9 x12 x13 : Sl) : ∀ (k : Nat) (lo n : Int) (bs : List D) (found : List Int) (here : Int) (x7 : Sl), Bag n bs → n + k ≤ 10 ^ 11 → found.length + k ≤ 1000 → here + 1000 * k ≤ 900000 →
    ∃ bs' new x7', forL (bName 7) (l_law_step_1 C) (rngL lo k) [.bag bs, dc, .dat (ruleD c s), x3, x4, x5, x6, x7, x8, x9, .dat (.tuple (intsD found)), .dat (.int here), x12, x13] = some (.nx [.bag bs', dc, .dat (ruleD c s), x3, x4, x5, x6, x7', x8, x9, .dat (.tuple (intsD (found ++ new))), .dat (.int (endP here new)), x12, x13]) ∧
      Bag (n + k) bs' ∧ new.length = k ∧ asc here new ∧ endP here new ≤ here + 1000 * k
  | 0, lo, n, bs, found, here, x7, hb, hn, hf, hh => ⟨bs, [], x7, by simp [rngL, endP], by simpa using hb, rfl, trivial, by simp [endP]⟩
  | k + 1, lo, n, bs, found, here, x7, hb, hn, hf, hh => by
    obtain ⟨r, bs1, e1, a1, b1, hb1⟩ := take_F n 5 bs hb (by omega) (by decide) (by decide)
    obtain ⟨m, p5, q5⟩ := pick5 (v := 0) (w := 1) (x := s - 1) (y := s) (z := 2) a1 b1
    have hm : 0 ≤ m ∧ m ≤ 1000 := by omega
    obtain ⟨bs', new, x7', e, hb', hl', ha', ht'⟩ := step_loop C c s hs dc x3 x4 x5 x6 x8 x9 x12 x13 k (lo + 1) (n + 1) bs1 (found ++ [here + m]) (here + m) (.dat (.int lo)) hb1 (by omega) (by rw [List.length_append]; simp; omega) (by omega)
    refine ⟨bs', (here + m) :: new, x7', ?_, hb'.mono (by omega), by simp [hl'], ⟨by omega, by omega, ha'⟩, by show endP (here + m) new ≤ _; omega⟩
    rw [rngL_succ]
    have g : found.length + 1 ≤ 100000 := by omega
    refine (forL_cons (ρ1 := [.bag bs, dc, .dat (ruleD c s), x3, x4, x5, x6, .dat (.int lo), x8, x9, .dat (.tuple (intsD found)), .dat (.int here), x12, x13]) (ρ2 := [.bag bs1, dc, .dat (ruleD c s), x3, x4, x5, x6, .dat (.int lo), x8, x9, .dat (.tuple (intsD (found ++ [here + m]))), .dat (.int (here + m)), x12, x13]) rfl ?_).trans ?_
    · unfold l_law_step_1
      refine seq_eq (ρ1 := [.bag bs1, dc, .dat (ruleD c s), x3, x4, x5, x6, .dat (.int lo), x8, x9, .dat (.tuple (intsD found)), .dat (.int (here + m)), x12, x13]) (by simp [e1, p5]) ?_
      simp [g, intsD_app]
    · rw [e]
      simp [endP]
def pairD (p : List Int × Int) : D := .tuple [.tuple (intsD p.1), .int p.2]
def docP (c s : Int) (p : List Int × Int) : D := docS c s p.1 p.2
theorem q_many : eqD (.tuple [.str "TooMany"]) (.tuple [.str "TooMany"]) = some (.bool true) := by kernel_rfl
theorem q_time : eqD (.tuple [.str "InvalidTime"]) (.tuple [.str "InvalidTime"]) = some (.bool true) := by kernel_rfl
theorem same_value (k : Nat) (x : D) (h : F_law_same (k + 1) [x, x] = some (.bool true)) : F_law_same (k + 2) [.tuple [.str "value", x], .tuple [.str "value", x]] = some (.bool true) := by
  have hv : F_law_same (k + 1) [.str "value", .str "value"] = some (.bool true) := by
    have e : eqD (.str "value") (.str "value") = some (.bool true) := by kernel_rfl
    unfold F_law_same b_law_same
    simp [-eqD, e]
  refine same_tup _ _ (by simp) fun d hd => ?_
  rcases List.mem_cons.mp hd with rfl | hd
  · exact hv
  · have : d = x := by simpa using hd
    subst this
    exact h
abbrev WS : List Str := ["InvalidRule", "InvalidTime", "NothingToUndo", "TooMany"]
theorem w_many : ("TooMany" : Str) ∈ WS := by decide +kernel
theorem w_time : ("InvalidTime" : Str) ∈ WS := by decide +kernel
theorem w_undo : ("NothingToUndo" : Str) ∈ WS := by decide +kernel
/-- the odd times -/
theorem pick6 {v w x y z u : D} {r : Int} (h0 : 0 ≤ r) (h : r < 6) : ∃ m, atI [v, w, x, y, z, u] r = some m ∧ (m = v ∨ m = w ∨ m = x ∨ m = y ∨ m = z ∨ m = u) := by
  rcases (show r = 0 ∨ r = 1 ∨ r = 2 ∨ r = 3 ∨ r = 4 ∨ r = 5 by omega) with rfl | rfl | rfl | rfl | rfl | rfl
  · exact ⟨v, rfl, by simp⟩
  · exact ⟨w, rfl, by simp⟩
  · exact ⟨x, rfl, by simp⟩
  · exact ⟨y, rfl, by simp⟩
  · exact ⟨z, rfl, by simp⟩
  · exact ⟨u, rfl, by simp⟩
def SOk (B : Int) (p : List Int × Int) : Prop := p.1.length ≤ 60 ∧ asc 0 p.1 ∧ endP 0 p.1 ≤ p.2 ∧ 0 ≤ p.2 ∧ p.2 ≤ B
theorem seq_ite_rt {cc : Rho → Option (Bool × Rho)} {F F2 G : Rho → Option Out} {ρ ρ1 ρ2 : Rho} {d : D} (h : cc ρ = some (true, ρ1)) (h2 : F ρ1 = some (.rt d ρ2)) : seqF (iteF cc F F2) G ρ = some (.rt d ρ2) := by simp [h, h2]
theorem seq_ite_no {cc : Rho → Option (Bool × Rho)} {F G : Rho → Option Out} {ρ ρ1 : Rho} {r : Option Out} (h : cc ρ = some (false, ρ1)) (h2 : G ρ1 = r) : seqF (iteF cc F skipF) G ρ = r := by simp [h, h2]
theorem step_wrap {C a l : Addr} {rl x y d : D} {bs bs' sts sts' : List D} {ρ' : Rho} (h : b_law_step C (.bag bs :: .doc C a l rl sts :: startR 12 [x, y]) = some (.rt d ρ')) (h0 : ρ'[(0 : Nat)]? = some (.bag bs')) (h1 : ρ'[(1 : Nat)]? = some (.doc C a l rl sts')) : F_law_step C bs a l rl sts [x, y] = some (d, bs', sts') := by
  unfold F_law_step runBD
  simp only [List.length_cons, List.length_nil, if_true]
  rw [h]
  simp [h0, h1, endK]
/-- the environment of _law_step -/
abbrev ρs (C a l : Addr) (c s : Int) (e : List Int) (t : Int) (bs : List D) (w : Int) (x7 x8 x9 x10 x11 x12 x13 : Sl) (sts' : List D) : Rho := [.bag bs, .doc C a l (ruleD c s) sts', .dat (ruleD c s), .dat (pairD (e, t)), .dat (.int w), .dat (.tuple (intsD e)), .dat (.int t), x7, x8, x9, x10, x11, x12, x13]
theorem law_step_F (C a l : Addr) (c s : Int) (hr : RuleOk c s) (n : Int) (bs : List D) (hn : n ≤ 10 ^ 10) (hb : Bag n bs) (sts : List D) (e : List Int) (t B : Int) (hB : B ≤ 800000) (hl : sts.getLast? = some (docS c s e t)) (hlen : sts.length < 1000) (hp : SOk B (e, t)) :
    ∃ (later : List (List Int × Int)) (bs' : List D), F_law_step C bs a l (ruleD c s) sts [ruleD c s, pairD (e, t)] = some (.tuple [.bool true, .list (later.map pairD)], bs', sts ++ later.map (docP c s)) ∧ Bag (n + 10) bs' ∧ later.length ≤ 1 ∧ ∀ p ∈ later, SOk (B + 4000) p := by
  obtain ⟨he, ha, hle, h0, hBt⟩ := hp
  simp only at he ha hle h0 hBt
  obtain ⟨w, bs1, e1, a1, b1, hb1⟩ := take_F n 8 bs hb (by omega) (by decide) (by decide)
  have st1 : (asgF (nE (consEA (drwE 0 (consEA (toE (kD (.int 8))) nilEA) F_law_take) (consEA (toE (b2D (varD .str 3) (kD (.int 0)) ixD)) (consEA (toE (b2D (varD .str 3) (kD (.int 1)) ixD)) nilEA))) tupD) (bTup 3 (bCons (bName 4) (bCons (bName 5) (bCons (bName 6) bNil))))) (.bag bs :: .doc C a l (ruleD c s) sts :: startR 12 [ruleD c s, pairD (e, t)]) = some (.nx (ρs C a l c s e t bs1 w .nil .nil .nil .nil .nil .nil .nil sts)) := by
    simp [e1, pairD]
  by_cases hw : w < 5
  · obtain ⟨k0, bs2, e2, a2, b2, hb2⟩ := take_F _ 4 bs1 hb1 (by omega) (by decide) (by decide)
    obtain ⟨k, rfl⟩ := Int.eq_ofNat_of_zero_le a2
    obtain ⟨bs3, new, x7', e3, hb3, hk, hasc, hend⟩ := step_loop C c s ⟨hr.2.2.1, hr.2.2.2⟩ (.doc C a l (ruleD c s) sts) (.dat (pairD (e, t))) (.dat (.int w)) (.dat (.tuple (intsD e))) (.dat (.int t)) .nil .nil .nil .nil k 0 _ bs2 [] t .nil hb2 (by omega) (by simp; omega) (by omega)
    simp only [List.nil_append] at e3
    have hk3 : k ≤ 3 := by omega
    have hrg := rng1_nat k (by omega)
    have st2 : ∀ G, (seqF (asgF (toE (nD (consA (nD nilA tupD) (consA (varD .str 6) nilA)) tupD)) (bTup 2 (bCons (bName 10) (bCons (bName 11) bNil))))
        (seqF (forF (nIE (consEA (drwE 0 (consEA (toE (kD (.int 4))) nilEA) F_law_take) nilEA) rng1) (bName 7) (l_law_step_1 C)) G)) (ρs C a l c s e t bs1 w .nil .nil .nil .nil .nil .nil .nil sts) = G (ρs C a l c s e t bs3 w x7' .nil .nil (.dat (.tuple (intsD new))) (.dat (.int (endP t new))) .nil .nil sts) := fun G => by
      refine (seq_eq (ρ1 := ρs C a l c s e t bs1 w .nil .nil .nil (.dat (.tuple [])) (.dat (.int t)) .nil .nil sts) (by simp) ?_)
      refine (seq_eq (ρ1 := ρs C a l c s e t bs3 w x7' .nil .nil (.dat (.tuple (intsD new))) (.dat (.int (endP t new))) .nil .nil sts) ?_ rfl)
      simp only [ruleD] at e3
      simp [-forL, e2, hrg]
      exact e3
    by_cases hm : e.length + new.length ≤ 60
    · have ed := edit_ok a l c s hr sts e t hl hlen new hasc hm
      have le := law_edit_F C a l (ruleD c s) sts new (by omega) _ ed ⟨_, _, .inl rfl⟩
      have lo := law_open_F c s (endP t new) (e ++ new) (by rw [List.length_append]; omega)
      have sv := same_value 6 _ (same_int 6 (opN c s (endP t new) (e ++ new) : Int))
      rw [intsD_app] at lo
      have g1 : e.length + new.length ≤ 100000 := by omega
      have g3 : ¬ (60 : Int) < (e.length : Int) + (new.length : Int) := by omega
      have wl1 := wl_len (partM (endP t new) (e ++ new)).length (opN c s (endP t new) (e ++ new))
      have hge := endP_ge t new hasc
      refine ⟨[(e ++ new, endP t new)], bs3, ?_, hb3.mono (by omega), by simp, fun p hp => ?_⟩
      · refine step_wrap (ρ' := ρs C a l c s e t bs3 w x7' (.dat (.tuple [.str "value", .int (opN c s (endP t new) (e ++ new))])) (.dat (pairD (e ++ new, endP t new))) (.dat (.tuple (intsD new))) (.dat (.int (endP t new))) .nil .nil (sts ++ [docS c s (e ++ new) (endP t new)])) ?_ rfl rfl
        unfold b_law_step
        refine (seq_eq st1 ?_)
        refine seq_ite_rt (ρ1 := ρs C a l c s e t bs1 w .nil .nil .nil .nil .nil .nil .nil sts) (by simp [hw]) ?_
        refine (st2 _).trans ?_
        simp only [ruleD] at le lo
        refine seq_eq (ρ1 := ρs C a l c s e t bs3 w x7' (.dat (.tuple [.str "value", .int (opN c s (endP t new) (e ++ new))])) .nil (.dat (.tuple (intsD new))) (.dat (.int (endP t new))) .nil .nil (sts ++ [docS c s (e ++ new) (endP t new)])) (by simp [G_law_step, docG, le]) ?_
        refine seq_ite_no (ρ1 := ρs C a l c s e t bs3 w x7' (.dat (.tuple [.str "value", .int (opN c s (endP t new) (e ++ new))])) .nil (.dat (.tuple (intsD new))) (.dat (.int (endP t new))) .nil .nil (sts ++ [docS c s (e ++ new) (endP t new)])) (by simp [g3]) ?_
        refine seq_eq (ρ1 := ρs C a l c s e t bs3 w x7' (.dat (.tuple [.str "value", .int (opN c s (endP t new) (e ++ new))])) (.dat (pairD (e ++ new, endP t new))) (.dat (.tuple (intsD new))) (.dat (.int (endP t new))) .nil .nil (sts ++ [docS c s (e ++ new) (endP t new)])) (by simp [g1, pairD, intsD_app]) ?_
        simp [pairD, lo, sv, wl1, intsD_app]
      · have : p = (e ++ new, endP t new) := by simpa using hp
        subst this
        refine ⟨by simp only [List.length_append]; omega, asc_app 0 e new ha (asc_le hle hasc), ?_, by simp only; omega, by simp only; omega⟩
        simp only
        rw [endP_app]
        exact endP_mono hle new
    · have ed := edit_many a l c s sts e t hl new hasc (by omega) (by omega)
      have le := law_edit_F C a l (ruleD c s) sts new (by omega) _ ed ⟨0, [], .inr rfl⟩
      have g3 : (60 : Int) < (e.length : Int) + (new.length : Int) := by omega
      refine ⟨[], bs3, ?_, hb3.mono (by omega), by simp, fun p hp => by simp at hp⟩
      rw [List.map_nil, List.map_nil, List.append_nil]
      refine step_wrap (ρ' := ρs C a l c s e t bs3 w x7' (.dat (.tuple [.str "TooMany"])) .nil (.dat (.tuple (intsD new))) (.dat (.int (endP t new))) .nil .nil sts) ?_ rfl rfl
      unfold b_law_step
      refine (seq_eq st1 ?_)
      refine seq_ite_rt (ρ1 := ρs C a l c s e t bs1 w .nil .nil .nil .nil .nil .nil .nil sts) (by simp [hw]) ?_
      refine (st2 _).trans ?_
      simp only [ruleD] at le
      have wm := w_many
      refine seq_eq (ρ1 := ρs C a l c s e t bs3 w x7' (.dat (.tuple [.str "TooMany"])) .nil (.dat (.tuple (intsD new))) (.dat (.int (endP t new))) .nil .nil sts) (by
        simp only [setF, outM, G_law_step, docG, consA, nilA, varD]
        simp [le, wm]) ?_
      refine seq_ite_rt (ρ1 := ρs C a l c s e t bs3 w x7' (.dat (.tuple [.str "TooMany"])) .nil (.dat (.tuple (intsD new))) (.dat (.int (endP t new))) .nil .nil sts) (by simp [g3]) ?_
      simp [-eqD, q_many]
  · have st2 : ∀ F G, seqF (iteF (toT (tstD (b2D (varD .bas 4) (kD (.int 5)) ltD))) F skipF) G (ρs C a l c s e t bs1 w .nil .nil .nil .nil .nil .nil .nil sts) = G (ρs C a l c s e t bs1 w .nil .nil .nil .nil .nil .nil .nil sts) := fun F G => seq_ite_no (by simp [hw]) rfl
    by_cases hw7 : w < 7
    · obtain ⟨r, bs2, e2, a2, b2, hb2⟩ := take_F _ (s + 3) bs1 hb1 (by omega) (by omega) (by omega)
      have hs := hr.2.2
      have ca := call_ok a l c s hr sts e t hl hlen (t + r) (by omega) (by omega) he
      have lo := law_open_F c s (t + r) e (by omega)
      have sv := same_value 6 _ (same_int 6 (opN c s (t + r) e : Int))
      have wl1 := wl_len (partM (t + r) e).length (opN c s (t + r) e)
      refine ⟨[(e, t + r)], bs2, ?_, hb2.mono (by omega), by simp, fun p hp => ?_⟩
      · refine step_wrap (ρ' := ρs C a l c s e t bs2 w .nil (.dat (.tuple [.str "value", .int (opN c s (t + r) e)])) .nil .nil (.dat (.int (t + r))) .nil .nil (sts ++ [docS c s e (t + r)])) ?_ rfl rfl
        unfold b_law_step
        refine (seq_eq st1 ?_)
        refine (st2 _ _).trans ?_
        refine seq_ite_rt (ρ1 := ρs C a l c s e t bs1 w .nil .nil .nil .nil .nil .nil .nil sts) (by simp [hw7]) ?_
        simp only [ruleD] at ca lo
        refine seq_eq (ρ1 := ρs C a l c s e t bs2 w .nil .nil .nil .nil (.dat (.int (t + r))) .nil .nil sts) (by simp [e2]) ?_
        refine seq_eq (ρ1 := ρs C a l c s e t bs2 w .nil (.dat (.tuple [.str "value", .int (opN c s (t + r) e)])) .nil .nil (.dat (.int (t + r))) .nil .nil (sts ++ [docS c s e (t + r)])) (by simp [G_law_step, docG, ca]) ?_
        simp [pairD, lo, sv, wl1]
      · have : p = (e, t + r) := by simpa using hp
        subst this
        exact ⟨he, ha, by simp only; omega, by simp only; omega, by simp only; omega⟩
    · obtain ⟨r, bs2, e2, a2, b2, hb2⟩ := take_F _ 6 bs1 hb1 (by omega) (by decide) (by decide)
      obtain ⟨odd, p6, q6⟩ := pick6 (v := .none) (w := .bool true) (x := .int (-1)) (y := .int (t - 1)) (z := .int 1000001) (u := .str "3") a2 b2
      have ho : F_in_range [odd, .int t, .int 1000000] = some (.bool false) := by
        rcases q6 with rfl | rfl | rfl | rfl | rfl | rfl
        · unfold F_in_range b_in_range; simp
        · unfold F_in_range b_in_range; simp
        · rw [in_range_F]
          have : ¬ (t ≤ -1 ∧ (-1 : Int) ≤ 1000000) := by omega
          simp [this]
          omega
        · rw [in_range_F]
          have : ¬ (t ≤ t - 1 ∧ t - 1 ≤ 1000000) := by omega
          simp only [this, decide_false]
        · rw [in_range_F]
          have : ¬ (t ≤ 1000001 ∧ (1000001 : Int) ≤ 1000000) := by omega
          simp only [this, decide_false]
        · unfold F_in_range b_in_range; simp
      have fo : flat odd = true := by rcases q6 with rfl | rfl | rfl | rfl | rfl | rfl <;> rfl
      have cb := call_bad a l c s sts e t hl odd ho
      have eb := edit_bad a l c s sts e t hl odd ⟨h0, by omega⟩ ho
      have wt := w_time
      have pw : (10 : Int) ^ 6 + 1 = 1000001 := by decide
      refine ⟨[], bs2, ?_, hb2.mono (by omega), by simp, fun p hp => by simp at hp⟩
      rw [List.map_nil, List.map_nil, List.append_nil]
      refine step_wrap (ρ' := ρs C a l c s e t bs2 w .nil .nil .nil .nil .nil (.dat odd) (.dat (.bool true)) sts) ?_ rfl rfl
      unfold b_law_step
      refine (seq_eq st1 ?_)
      refine (st2 _ _).trans ?_
      refine seq_ite_no (ρ1 := ρs C a l c s e t bs1 w .nil .nil .nil .nil .nil .nil .nil sts) (by simp [hw7]) ?_
      simp only [ruleD] at cb eb
      refine seq_eq (ρ1 := ρs C a l c s e t bs2 w .nil .nil .nil .nil .nil (.dat odd) .nil sts) (by simp [e2, pw, p6]) ?_
      have o2 : outM (G_law_step C 2) WS (ρs C a l c s e t bs2 w .nil .nil .nil .nil .nil (.dat odd) .nil sts) = some (.tuple [.str "InvalidTime"], ρs C a l c s e t bs2 w .nil .nil .nil .nil .nil (.dat odd) .nil sts) := by
        simp only [outM, G_law_step, docG, consA, nilA, varD]
        simp [cb, wt, fo]
      have o3 : outM (G_law_step C 3) WS (ρs C a l c s e t bs2 w .nil .nil .nil .nil .nil (.dat odd) (.dat (.bool true)) sts) = some (.tuple [.str "InvalidTime"], ρs C a l c s e t bs2 w .nil .nil .nil .nil .nil (.dat odd) (.dat (.bool true)) sts) := by
        simp only [outM, G_law_step, docG, consA, nilA, varD]
        simp [eb, wt, fo]
      refine seq_eq (ρ1 := ρs C a l c s e t bs2 w .nil .nil .nil .nil .nil (.dat odd) (.dat (.bool true)) sts) ?_ ?_
      · simp only [setF, b2E, o2]
        simp [-eqD, q_time]
      · simp [-eqD, -outM, o3, q_time]

end My

set_option autoImplicit false
namespace My
open PySem PySem.Spec
open PyProof.Rows hiding St
open L2 DL
/-! ## the law -/
theorem sw {F : Rho → Option Out} {Gw : FW} {ρ ρ1 : Rho} {Post : Out → Prop} (h : F ρ = some (.nx ρ1)) (k : Gw ρ1 Post) : seqW (ofW F) Gw ρ Post := ⟨.nx ρ1, h, k⟩
theorem sw_new {i : Nat} {C : Addr} {chk : Addr → D → Option D} {st0 d rl : D} {g : Rho → Option D} {Gw : FW} {ρ : Rho} {Post : Out → Prop} (h : g ρ = some d) (f1 : flat d = true) (f2 : flat rl = true) (hc : ∀ a, chk a d = some rl) (k : ∀ a l, Gw (ρ.set i (.doc C a l rl [st0])) Post) : seqW (newW i C chk st0 g) Gw ρ Post := ⟨d, rl, h, f1, f2, hc, fun a l => k a l⟩
theorem sw_newP {i j : Nat} {C : Addr} {chk : Addr → D → Option D} {st0 d rl d2 : D} {g g2 : Rho → Option D} {Gw : FW} {ρ : Rho} {Post : Out → Prop} (h : g ρ = some d) (h2 : g2 ρ = some d2) (f1 : flat d = true) (f2 : flat rl = true) (hc : ∀ a, chk a d = some rl) (k : ∀ a l, Gw ((ρ.set i (.doc C a l rl [st0])).set j (.dat d2)) Post) : seqW (newPW i j C chk st0 g g2) Gw ρ Post := ⟨d, rl, d2, h, h2, f1, f2, hc, fun a l => k a l⟩
theorem ite_yes {cc : Rho → Option (Bool × Rho)} {F G : Rho → Option Out} {ρ ρ1 : Rho} {r : Option Out} (h : cc ρ = some (true, ρ1)) (h2 : F ρ1 = r) : iteF cc F G ρ = r := by simp [h, h2]
theorem ite_no {cc : Rho → Option (Bool × Rho)} {F G : Rho → Option Out} {ρ ρ1 : Rho} {r : Option Out} (h : cc ρ = some (false, ρ1)) (h2 : G ρ1 = r) : iteF cc F G ρ = r := by simp [h, h2]
theorem SOk.mono {B B' : Int} (h : B ≤ B') {p : List Int × Int} (k : SOk B p) : SOk B' p := ⟨k.1, k.2.1, k.2.2.1, k.2.2.2.1, by have := k.2.2.2.2; omega⟩
theorem same_undo : F_law_same 8 [.tuple [.str "NothingToUndo"], .tuple [.str "NothingToUndo"]] = some (.bool true) := by
  refine same_tup 7 _ (by simp) fun d hd => ?_
  obtain rfl : d = .str "NothingToUndo" := by simpa using hd
  have e : eqD (.str "NothingToUndo") (.str "NothingToUndo") = some (.bool true) := by kernel_rfl
  unfold F_law_same b_law_same
  simp [-eqD, e]
/-- the environment of law, within the loop -/
abbrev ρl (a0 C a l : Addr) (c s : Int) (bs sts prs : List D) (x3 x4 x5 x8 x9 x10 x11 : Sl) : Rho := [.raw (.ref a0), .own bs, .dat (ruleD c s), x3, x4, x5, .doc C a l (ruleD c s) sts, .dat (.list prs), x8, x9, x10, x11]
theorem check_tail (a0 C a l : Addr) (c s : Int) (hr : RuleOk c s) (bs sts prs : List D) (p : List Int × Int) (B : Int) (hB : B ≤ 1000000) (hp : SOk B p) (hl : sts.getLast? = some (docS c s p.1 p.2)) (hx : prs.getLast? = some (pairD p)) (x3 x4 x5 x8 x10 x11 : Sl) :
    (iteF (orE (toT (notT (tstD (varD .bas 9)))) (notE (tstE (deM (docG 6 C (consA (varD .bas 2) (consA (b2D (varD .bas 7) (b1D (kD (.int 1)) negD) ixD) nilA)) (F_law_right C)))))) (retP (kD (.bool false))) skipF) (ρl a0 C a l c s bs sts prs x3 x4 x5 x8 (.dat (.bool true)) x10 x11) = some (.nx (ρl a0 C a l c s bs sts prs x3 x4 x5 x8 (.dat (.bool true)) x10 x11)) := by
  have rt := law_right_F C a l c s hr sts p.1 p.2 hl hp.1 (by have := hp.2.2.2.2; omega)
  have hpd : pairD p = .tuple [.tuple (intsD p.1), .int p.2] := rfl
  rw [hpd] at hx
  simp only [ruleD] at rt
  simp [docG, hx, rt]
theorem last_map (c s : Int) (ps : List (List Int × Int)) (p : List Int × Int) : ((ps ++ [p]).map (docP c s)).getLast? = some (docS c s p.1 p.2) := by rw [List.map_append]; simp [docP]
theorem last_mapP (ps : List (List Int × Int)) (p : List Int × Int) : ((ps ++ [p]).map pairD).getLast? = some (pairD p) := by rw [List.map_append]; simp
abbrev undoS (C : Addr) : Rho → Option Out := (seqF (setP 8 (ifD (tstD (b2D (nD (consA (varD .bas 7) nilA) lenD) (kD (.int 1)) gtD)) (nD (consA (kD (.str "value")) (consA (kD .none) nilA)) tupD) (nD (consA (kD (.str "NothingToUndo")) nilA) tupD)))
    (seqF (setF 9 (nE (consEA (outM (G_law C 0) WS) (consEA (toE (varD .str 8)) nilEA)) (F_law_same 8)))
    (setP 7 (slD (varD .str 7) noO (soO (nD (consA (kD (.int 1)) (consA (b2D (nD (consA (varD .str 7) nilA) lenD) (kD (.int 1)) subD) nilA)) max2D))))))
theorem und_er (a0 C a l : Addr) (c s : Int) (bs sts prs : List D) (hl : prs.length = 1) (u : F_m_undo a l (ruleD c s) sts [] = some (.er "NothingToUndo")) (x3 x4 x5 x8 x9 x10 x11 : Sl) :
    undoS C (ρl a0 C a l c s bs sts prs x3 x4 x5 x8 x9 x10 x11) = some (.nx (ρl a0 C a l c s bs sts prs x3 x4 x5 (.dat (.tuple [.str "NothingToUndo"])) (.dat (.bool true)) x10 x11)) := by
  have su := same_undo
  have wu := w_undo
  have e : DL.cutD prs none (some 1) = prs := by
    rw [cutD_to _ 1 (by decide)]
    exact List.take_of_length_le (by rw [hl]; exact Nat.le_refl _)
  have o : outM (G_law C 0) WS (ρl a0 C a l c s bs sts prs x3 x4 x5 (.dat (.tuple [.str "NothingToUndo"])) x9 x10 x11) = some (.tuple [.str "NothingToUndo"], ρl a0 C a l c s bs sts prs x3 x4 x5 (.dat (.tuple [.str "NothingToUndo"])) x9 x10 x11) := by
    simp only [ruleD] at u
    simp only [outM, G_law, docG, nilA]
    simp [u, wu]
  unfold undoS
  refine seq_eq (ρ1 := ρl a0 C a l c s bs sts prs x3 x4 x5 (.dat (.tuple [.str "NothingToUndo"])) x9 x10 x11) (by simp [hl]) ?_
  refine seq_eq (ρ1 := ρl a0 C a l c s bs sts prs x3 x4 x5 (.dat (.tuple [.str "NothingToUndo"])) (.dat (.bool true)) x10 x11) (by simp [-outM, o, su]) ?_
  simp [slcD, hl, e]
theorem und_ok (a0 C a l : Addr) (c s : Int) (bs sts sts' prs prs' : List D) (pl : D) (hp : prs = prs' ++ [pl]) (hl : 0 < prs'.length) (hb : prs'.length ≤ 1000) (u : F_m_undo a l (ruleD c s) sts [] = some (.ok .none sts')) (x3 x4 x5 x8 x9 x10 x11 : Sl) :
    undoS C (ρl a0 C a l c s bs sts prs x3 x4 x5 x8 x9 x10 x11) = some (.nx (ρl a0 C a l c s bs sts' prs' x3 x4 x5 (.dat (.tuple [.str "value", .none])) (.dat (.bool true)) x10 x11)) := by
  have su := same_value 6 .none (same_none 6)
  have hlen : prs.length = prs'.length + 1 := by rw [hp]; simp
  have e : DL.cutD prs none (some (prs'.length : Int)) = prs' := by
    rw [cutD_nat, hp, List.take_left' rfl]
  have o : outM (G_law C 0) WS (ρl a0 C a l c s bs sts prs x3 x4 x5 (.dat (.tuple [.str "value", .none])) x9 x10 x11) = some (.tuple [.str "value", .none], ρl a0 C a l c s bs sts' prs x3 x4 x5 (.dat (.tuple [.str "value", .none])) x9 x10 x11) := by
    simp only [ruleD] at u
    simp [G_law, docG, u]
  have g1 : (1 : Int) < (prs'.length : Int) + 1 := by omega
  have g2 : (if (1 : Int) < (prs'.length : Int) then (prs'.length : Int) else 1) = (prs'.length : Int) := by split <;> omega
  clear hp
  unfold undoS
  refine seq_eq (ρ1 := ρl a0 C a l c s bs sts prs x3 x4 x5 (.dat (.tuple [.str "value", .none])) x9 x10 x11) (by simp [hlen, g1]) ?_
  refine seq_eq (ρ1 := ρl a0 C a l c s bs sts' prs x3 x4 x5 (.dat (.tuple [.str "value", .none])) (.dat (.bool true)) x10 x11) (by simp [-outM, o, su]) ?_
  simp [slcD, hlen, g2, e]
theorem step_go (a0 C a l : Addr) (c s : Int) (bs bs2 sts sts2 prs ls : List D) (pl : D) (hx : prs.getLast? = some pl) (e2 : F_law_step C bs a l (ruleD c s) sts [ruleD c s, pl] = some (.tuple [.bool true, .list ls], bs2, sts2)) (g : prs.length + ls.length ≤ 100000) (x3 x4 x5 x8 x9 x10 x11 : Sl) :
    (seqF (asgF (bdE 1 6 C (consA (varD .str 2) (consA (b2D (varD .str 7) (b1D (kD (.int 1)) negD) ixD) nilA)) (F_law_step C)) (bTup 2 (bCons (bName 9) (bCons (bName 10) bNil)))) (setP 7 (b2D (varD .str 7) (varD .str 10) addD))) (ρl a0 C a l c s bs sts prs x3 x4 x5 x8 x9 x10 x11) = some (.nx (ρl a0 C a l c s bs2 sts2 (prs ++ ls) x3 x4 x5 x8 (.dat (.bool true)) (.dat (.list ls)) x11)) := by
  simp only [ruleD] at e2
  refine seq_eq (ρ1 := ρl a0 C a l c s bs2 sts2 prs x3 x4 x5 x8 (.dat (.bool true)) (.dat (.list ls)) x11) (by simp [bdE, hx, e2]) ?_
  simp [g]
theorem turn (a0 C a l : Addr) (c s : Int) (hr : RuleOk c s) (n : Int) (hn : n ≤ 10 ^ 9) (bs : List D) (hb : Bag n bs) (ps : List (List Int × Int)) (hne : ps ≠ []) (hlen : ps.length ≤ 500) (B : Int) (hB : B ≤ 800000) (hps : ∀ p ∈ ps, SOk B p) (x3 x4 x5 x8 x9 x10 x11 : Sl) :
    ∃ (bs' : List D) (ps' : List (List Int × Int)) (y8 y9 y10 : Sl), l_law_2 C (ρl a0 C a l c s bs (ps.map (docP c s)) (ps.map pairD) x3 x4 x5 x8 x9 x10 x11) = some (.nx (ρl a0 C a l c s bs' (ps'.map (docP c s)) (ps'.map pairD) x3 x4 x5 y8 y9 y10 x11)) ∧ Bag (n + 20) bs' ∧ ps' ≠ [] ∧ ps'.length ≤ ps.length + 1 ∧ ∀ p ∈ ps', SOk (B + 4000) p := by
  obtain ⟨r, bs1, e1, a1, b1, hb1⟩ := take_F n 5 bs hb (by omega) (by decide) (by decide)
  obtain ⟨ps0, p, rfl⟩ : ∃ ps0 p, ps = ps0 ++ [p] := ⟨ps.dropLast, ps.getLast hne, (List.dropLast_concat_getLast hne).symm⟩
  have hp : SOk B p := hps p (by simp)
  have hl := last_map c s ps0 p
  have hx := last_mapP ps0 p
  have hsl : ((ps0 ++ [p]).map (docP c s)).length = ps0.length + 1 := by simp
  have hpr : ((ps0 ++ [p]).map pairD).length = ps0.length + 1 := by simp
  have hlen' : ps0.length + 1 ≤ 500 := by simpa using hlen
  have cnd : ∀ sts prs, (tstE (b2E (drwE 1 (consEA (toE (kD (.int 5))) nilEA) F_law_take) (toE (kD (.int 0))) eqD)) (ρl a0 C a l c s bs sts prs x3 x4 x5 x8 x9 x10 x11) = some (decide (r = 0), ρl a0 C a l c s bs1 sts prs x3 x4 x5 x8 x9 x10 x11) := fun sts prs => by
    by_cases h : r = 0
    · subst h
      simp [e1]
    · simp [e1, h]
  by_cases h0 : r = 0
  · have cy : ∀ sts prs, (tstE (b2E (drwE 1 (consEA (toE (kD (.int 5))) nilEA) F_law_take) (toE (kD (.int 0))) eqD)) (ρl a0 C a l c s bs sts prs x3 x4 x5 x8 x9 x10 x11) = some (true, ρl a0 C a l c s bs1 sts prs x3 x4 x5 x8 x9 x10 x11) := fun sts prs => by rw [cnd, decide_eq_true h0]
    by_cases hp0 : ps0 = []
    · subst hp0
      have u := undo_one a l (ruleD c s) (([] ++ [p]).map (docP c s)) rfl
      have ue := und_er a0 C a l c s bs1 _ (([] ++ [p]).map pairD) rfl u x3 x4 x5 x8 x9 x10 x11
      have ct := check_tail a0 C a l c s hr bs1 (([] ++ [p]).map (docP c s)) (([] ++ [p]).map pairD) p B (by omega) hp rfl rfl x3 x4 x5 (.dat (.tuple [.str "NothingToUndo"])) x10 x11
      refine ⟨bs1, [] ++ [p], .dat (.tuple [.str "NothingToUndo"]), .dat (.bool true), x10, ?_, hb1.mono (by omega), by simp, by simp, fun q hq => (hps q hq).mono (by omega)⟩
      unfold l_law_2
      exact seq_eq (ite_yes (cy _ _) ue) ct
    · have hpl : 0 < ps0.length := List.length_pos_iff.mpr hp0
      obtain ⟨qs, q, hq⟩ : ∃ qs q, ps0 = qs ++ [q] := ⟨ps0.dropLast, ps0.getLast hp0, (List.dropLast_concat_getLast hp0).symm⟩
      have u := undo_more a l (ruleD c s) ((ps0 ++ [p]).map (docP c s)) (by omega)
      have hdl : ((ps0 ++ [p]).map (docP c s)).dropLast = ps0.map (docP c s) := by rw [List.map_append]; simp
      rw [hdl] at u
      have ue := und_ok a0 C a l c s bs1 _ _ ((ps0 ++ [p]).map pairD) (ps0.map pairD) (pairD p) (by rw [List.map_append]; rfl) (by simpa using hpl) (by simp; omega) u x3 x4 x5 x8 x9 x10 x11
      have ct := check_tail a0 C a l c s hr bs1 (ps0.map (docP c s)) (ps0.map pairD) q B (by omega) (hps q (by rw [hq]; simp)) (by rw [hq]; exact last_map c s qs q) (by rw [hq]; exact last_mapP qs q) x3 x4 x5 (.dat (.tuple [.str "value", .none])) x10 x11
      refine ⟨bs1, ps0, .dat (.tuple [.str "value", .none]), .dat (.bool true), x10, ?_, hb1.mono (by omega), hp0, by simp; omega, fun q hq => (hps q (by simp [hq])).mono (by omega)⟩
      unfold l_law_2
      exact seq_eq (ite_yes (cy _ _) ue) ct
  · have cn : ∀ sts prs, (tstE (b2E (drwE 1 (consEA (toE (kD (.int 5))) nilEA) F_law_take) (toE (kD (.int 0))) eqD)) (ρl a0 C a l c s bs sts prs x3 x4 x5 x8 x9 x10 x11) = some (false, ρl a0 C a l c s bs1 sts prs x3 x4 x5 x8 x9 x10 x11) := fun sts prs => by rw [cnd, decide_eq_false h0]
    obtain ⟨later, bs2, e2, hb2, hll, hlater⟩ := law_step_F C a l c s hr _ bs1 (by omega) hb1 ((ps0 ++ [p]).map (docP c s)) p.1 p.2 B hB hl (by omega) hp
    obtain ⟨qs, q, hq, hqm⟩ : ∃ qs q, ps0 ++ [p] ++ later = qs ++ [q] ∧ SOk (B + 4000) q := by
      match later, hll, hlater with
      | [], _, _ => exact ⟨ps0, p, by simp, hp.mono (by omega)⟩
      | [z], _, hz => exact ⟨ps0 ++ [p], z, rfl, hz z (by simp)⟩
    have sg := step_go a0 C a l c s bs1 bs2 _ _ ((ps0 ++ [p]).map pairD) (later.map pairD) (pairD p) hx e2 (by rw [hpr, List.length_map]; omega) x3 x4 x5 x8 x9 x10 x11
    rw [← List.map_append, ← List.map_append] at sg
    have ct := check_tail a0 C a l c s hr bs2 ((ps0 ++ [p] ++ later).map (docP c s)) ((ps0 ++ [p] ++ later).map pairD) q (B + 4000) (by omega) hqm (by rw [hq]; exact last_map c s qs q) (by rw [hq]; exact last_mapP qs q) x3 x4 x5 x8 (.dat (.list (later.map pairD))) x11
    refine ⟨bs2, ps0 ++ [p] ++ later, x8, .dat (.bool true), .dat (.list (later.map pairD)), ?_, hb2.mono (by omega), by simp, by simp; omega, fun q hq => ?_⟩
    · unfold l_law_2
      exact seq_eq (ite_no (cn _ _) sg) ct
    · rcases List.mem_append.mp hq with hq | hq
      · exact (hps q hq).mono (by omega)
      · exact hlater q hq

end My

set_option autoImplicit false
namespace My
open PySem PySem.Spec
open PyProof.Rows hiding St
open L2 DL
theorem turns (a0 C a l : Addr) (c s : Int) (hr : RuleOk c s) : ∀ (k : Nat) (lo n : Int) (bs : List D) (ps : List (List Int × Int)) (B : Int) (x3 x4 x5 x8 x9 x10 x11 : Sl), Bag n bs → n + 20 * k ≤ 10 ^ 9 → ps ≠ [] → ps.length + k ≤ 500 → B + 4000 * k ≤ 800000 → (∀ p ∈ ps, SOk B p) →
    ∃ (bs' : List D) (ps' : List (List Int × Int)) (y3 y8 y9 y10 : Sl), forL (bName 3) (l_law_2 C) (rngL lo k) (ρl a0 C a l c s bs (ps.map (docP c s)) (ps.map pairD) x3 x4 x5 x8 x9 x10 x11) = some (.nx (ρl a0 C a l c s bs' (ps'.map (docP c s)) (ps'.map pairD) y3 x4 x5 y8 y9 y10 x11)) ∧ ps' ≠ [] ∧ ps'.length ≤ ps.length + k ∧ ∀ p ∈ ps', SOk (B + 4000 * k) p
  | 0, lo, n, bs, ps, B, x3, x4, x5, x8, x9, x10, x11, hb, hn, hne, hl, hB, hps => ⟨bs, ps, x3, x8, x9, x10, rfl, hne, by omega, fun p hp => (hps p hp).mono (by omega)⟩
  | k + 1, lo, n, bs, ps, B, x3, x4, x5, x8, x9, x10, x11, hb, hn, hne, hl, hB, hps => by
    obtain ⟨bs1, ps1, y8, y9, y10, e1, hb1, hne1, hl1, hps1⟩ := turn a0 C a l c s hr n (by omega) bs hb ps hne (by omega) B (by omega) hps (.dat (.int lo)) x4 x5 x8 x9 x10 x11
    obtain ⟨bs2, ps2, z3, z8, z9, z10, e2, hne2, hl2, hps2⟩ := turns a0 C a l c s hr k (lo + 1) (n + 20) bs1 ps1 (B + 4000) (.dat (.int lo)) x4 x5 y8 y9 y10 x11 hb1 (by omega) hne1 (by omega) (by omega) hps1
    refine ⟨bs2, ps2, z3, z8, z9, z10, ?_, hne2, by omega, fun p hp => (hps2 p hp).mono (by omega)⟩
    rw [rngL_succ]
    exact (forL_cons rfl e1).trans e2
/-- the twin gets the edits one by one -/
theorem twin_loop (C a2 l2 : Addr) (c s : Int) (hr : RuleOk c s) (x0 x1 x2 x3 x6 x7 x8 x9 x10 x11 : Sl) : ∀ (es pre : List Int) (sts : List D) (x5 : Sl), sts.getLast? = some (docS c s pre (endP 0 pre)) → asc (endP 0 pre) es → pre.length + es.length ≤ 60 → sts.length + es.length < 900 →
    ∃ sts' x5', forL (bName 5) (l_law_1 C) (intsD es) [x0, x1, x2, x3, .doc C a2 l2 (ruleD c s) sts, x5, x6, x7, x8, x9, x10, x11] = some (.nx [x0, x1, x2, x3, .doc C a2 l2 (ruleD c s) sts', x5', x6, x7, x8, x9, x10, x11]) ∧ sts'.getLast? = some (docS c s (pre ++ es) (endP 0 (pre ++ es))) ∧ sts'.length = sts.length + es.length
  | [], pre, sts, x5, hl, ha, h1, h2 => ⟨sts, x5, rfl, by rw [List.append_nil]; exact hl, rfl⟩
  | m :: es, pre, sts, x5, hl, ha, h1, h2 => by
    simp only [List.length_cons] at h1 h2
    have ed := edit_ok a2 l2 c s hr sts pre (endP 0 pre) hl (by omega) [m] ⟨ha.1, ha.2.1, trivial⟩ (by simp; omega)
    have hend : endP (endP 0 pre) [m] = endP 0 (pre ++ [m]) := (endP_app 0 pre [m]).symm
    have hm : endP 0 (pre ++ [m]) = m := by rw [← hend]; rfl
    rw [hend] at ed
    obtain ⟨sts', x5', e, h3, h4⟩ := twin_loop C a2 l2 c s hr x0 x1 x2 x3 x6 x7 x8 x9 x10 x11 es (pre ++ [m]) (sts ++ [docS c s (pre ++ [m]) (endP 0 (pre ++ [m]))]) (.dat (.int m)) (by simp) (by rw [hm]; exact ha.2.2) (by simp; omega) (by simp; omega)
    refine ⟨sts', x5', ?_, by rw [h3, List.append_assoc]; rfl, by rw [h4]; simp; omega⟩
    rw [intsD_cons]
    refine (forL_cons (ρ1 := [x0, x1, x2, x3, .doc C a2 l2 (ruleD c s) sts, .dat (.int m), x6, x7, x8, x9, x10, x11]) (ρ2 := [x0, x1, x2, x3, .doc C a2 l2 (ruleD c s) (sts ++ [docS c s (pre ++ [m]) (endP 0 (pre ++ [m]))]), .dat (.int m), x6, x7, x8, x9, x10, x11]) rfl ?_).trans e
    unfold l_law_1
    have ed2 : F_m_edit a2 l2 (.tuple [.int c, .int s]) sts [.int m] = some (.ok (.int (opN c s (endP 0 (pre ++ [m])) (pre ++ [m]))) (sts ++ [docS c s (pre ++ [m]) (endP 0 (pre ++ [m]))])) := ed
    simp [docG, ed2]
/-! ### == -/
theorem shp_state (e : List Int) (t : Int) : Shp 2 (.tuple [.tuple (intsD e), .int t]) := shp_tup fun d hd => by
  simp only [List.mem_cons, List.not_mem_nil, or_false] at hd
  rcases hd with rfl | rfl
  · exact shp_tup (shp_ints e)
  · exact (shp_int t).mono (by decide)
theorem Feq_same (c s : Int) (e : List Int) (t : Int) : Feq (ruleD c s) (docS c s e t) (ruleD c s) (docS c s e t) = some true := by
  have h1 := (shp_state e t).ok (by decide)
  have h2 : SeqAt.shaped (ruleD c s) = true := shaped_intsT [c, s]
  have c4 := cut4 (.tuple (intsD e)) (.int t) (.int (opN c s t e)) (.tuple (intsD (dnT c s t e)))
  unfold Feq
  simp only [ruleD] at h2
  simp [docS, slcD, c4, h1, h2, eqvAll_ints]
theorem Feq_diff (c c' s : Int) (h : c ≠ c') (x y : D) : Feq (ruleD c s) x (ruleD c' s) y = some false := by
  have h1 : SeqAt.shaped (ruleD c s) = true := shaped_intsT [c, s]
  have h2 : SeqAt.shaped (ruleD c' s) = true := shaped_intsT [c', s]
  unfold Feq
  simp only [ruleD] at h1 h2
  simp [h1, h2, h]
theorem eq_check (C a l a2 l2 : Addr) (c s : Int) (hc : 1 ≤ c ∧ c ≤ 6) (hs : 1 ≤ s ∧ s ≤ 1000) (sts sts2 prs : List D) (e : List Int) (t : Int) (hl : sts.getLast? = some (docS c s e t)) (hl2 : sts2.getLast? = some (docS c s e t)) (hx : prs.getLast? = some (pairD (e, t))) (x0 x1 x3 x5 x8 x9 x10 x11 : Sl) :
    (iteF (toT (orT (notT (tstD (eqDD 4 6 C Feq))) (orT (tstD (eqDV 6 C (b2D (varD .bas 7) (b1D (kD (.int 1)) negD) ixD))) (tstD (eqDN 6 C chk1 z_m_init (nD (consA (b2D (b2D (b2D (varD .bas 2) (kD (.int 0)) ixD) (kD (.int 20)) modD) (kD (.int 1)) addD) (consA (b2D (varD .bas 2) (kD (.int 1)) ixD) nilA)) tupD) Feq))))) (retP (kD (.bool false))) skipF)
      [x0, x1, .dat (ruleD c s), x3, .doc C a2 l2 (ruleD c s) sts2, x5, .doc C a l (ruleD c s) sts, .dat (.list prs), x8, x9, x10, x11] = some (.nx [x0, x1, .dat (ruleD c s), x3, .doc C a2 l2 (ruleD c s) sts2, x5, .doc C a l (ruleD c s) sts, .dat (.list prs), x8, x9, x10, x11]) := by
  have f1 := Feq_same c s e t
  have f2 := Feq_diff c (c + 1) s (by omega) (docS c s e t) z_m_init
  have hne : sts ≠ [] := by rintro rfl; simp at hl
  have q1 : eqDD 4 6 C Feq [x0, x1, .dat (ruleD c s), x3, .doc C a2 l2 (ruleD c s) sts2, x5, .doc C a l (ruleD c s) sts, .dat (.list prs), x8, x9, x10, x11] = some (.bool true) := by
    simp only [ruleD] at f1
    simp [eqDD, hl, hl2, f1]
  have q2 : eqDV 6 C (b2D (varD .bas 7) (b1D (kD (.int 1)) negD) ixD) [x0, x1, .dat (ruleD c s), x3, .doc C a2 l2 (ruleD c s) sts2, x5, .doc C a l (ruleD c s) sts, .dat (.list prs), x8, x9, x10, x11] = some (.bool false) := by
    have hx2 : prs.getLast? = some (.tuple [.tuple (intsD e), .int t]) := hx
    simp [eqDV, hne, hx2]
  have hmod : c % 20 = c := Int.emod_eq_of_lt (by omega) (by omega)
  have hck : chk1 (.tuple [.int (c + 1), .int s]) = some (.tuple [.int (c + 1), .int s]) := by
    show (if 1 ≤ c + 1 ∧ c + 1 ≤ 20 ∧ 1 ≤ s ∧ s ≤ 1000 then some (PyData.tuple [.int (c + 1), .int s]) else none) = _
    rw [if_pos (by omega)]
  have q3 : eqDN 6 C chk1 z_m_init (nD (consA (b2D (b2D (b2D (varD .bas 2) (kD (.int 0)) ixD) (kD (.int 20)) modD) (kD (.int 1)) addD) (consA (b2D (varD .bas 2) (kD (.int 1)) ixD) nilA)) tupD) Feq [x0, x1, .dat (ruleD c s), x3, .doc C a2 l2 (ruleD c s) sts2, x5, .doc C a l (ruleD c s) sts, .dat (.list prs), x8, x9, x10, x11] = some (.bool false) := by
    simp only [ruleD] at f2
    simp [eqDN, hl, hmod, hck, f2]
  refine ite_no (ρ1 := [x0, x1, .dat (ruleD c s), x3, .doc C a2 l2 (ruleD c s) sts2, x5, .doc C a l (ruleD c s) sts, .dat (.list prs), x8, x9, x10, x11]) ?_ rfl
  simp only [toT, orT, notT, tstD, q1, q2, q3]
  rfl
def JL (a : Addr) (ρ : Rho) : Prop := ρ.length = 12 ∧ ρ[0]? = some (.raw (.ref a))
theorem law_body (C a : Addr) (bs : List D) (ρ : Rho) (hb : Bag 100000 bs) (h : JL a ρ) : b_lawbody C (ρ.set 1 (.own bs)) fun r => ∃ ρ2, r = .nx ρ2 ∧ JL a ρ2 := by
  obtain ⟨s0, s1, s2, s3, s4, s5, s6, s7, s8, s9, s10, s11, rfl⟩ := ex12 h.1
  obtain rfl : s0 = .raw (.ref a) := by simpa using h.2
  simp only [List.set_cons_succ, List.set_cons_zero]
  obtain ⟨r1, bs1, e1, a1, b1, hb1⟩ := take_F _ 6 bs hb (by decide) (by decide) (by decide)
  obtain ⟨r2, bs2, e2, a2, b2, hb2⟩ := take_F _ 30 bs1 hb1 (by decide) (by decide) (by decide)
  obtain ⟨c, hc⟩ : ∃ c, c = 1 + r1 := ⟨_, rfl⟩
  obtain ⟨s, hs⟩ : ∃ s, s = 1 + r2 := ⟨_, rfl⟩
  have hr : RuleOk c s := by unfold RuleOk; omega
  unfold b_lawbody
  refine sw (ρ1 := [.raw (.ref a), .own bs2, .dat (ruleD c s), s3, s4, s5, s6, s7, s8, s9, s10, s11]) (by simp [e1, e2, hc, hs]) ?_
  refine sw_newP (d := ruleD c s) (rl := ruleD c s) (d2 := .list [.tuple [.tuple [], .int 0]]) rfl (by simp) rfl rfl (fun x => init_F x c s hr) fun a1 l1 => ?_
  simp only [List.set_cons_succ, List.set_cons_zero]
  obtain ⟨bs3, ps, y3, y8, y9, y10, e3, hne, hlen, hps⟩ := turns a C a1 l1 c s hr 40 0 _ bs2 [([], 0)] 0 s3 s4 s5 s8 s9 s10 s11 hb2 (by decide) (by simp) (by simp) (by decide) (fun p hp => by
    obtain rfl : p = ([], 0) := by simpa using hp
    exact ⟨by decide, trivial, by decide, by decide, by decide⟩)
  have hrg := rng1_nat 40 (by decide)
  obtain ⟨ps0, p, rfl⟩ : ∃ ps0 p, ps = ps0 ++ [p] := ⟨ps.dropLast, ps.getLast hne, (List.dropLast_concat_getLast hne).symm⟩
  have hp := hps p (by simp)
  have hl := last_map c s ps0 p
  have hx := last_mapP ps0 p
  obtain ⟨hp1, hp2, hp3, hp4, hp5⟩ := hp
  refine sw (ρ1 := ρl a C a1 l1 c s bs3 ((ps0 ++ [p]).map (docP c s)) ((ps0 ++ [p]).map pairD) y3 s4 s5 y8 y9 y10 s11) ?_ ?_
  · have hz : forL (bName 3) (l_law_2 C) (rngL 0 40) [.raw (.ref a), .own bs2, .dat (ruleD c s), s3, s4, s5, .doc C a1 l1 (ruleD c s) [z_m_init], .dat (.list [.tuple [.tuple [], .int 0]]), s8, s9, s10, s11] = some (.nx (ρl a C a1 l1 c s bs3 ((ps0 ++ [p]).map (docP c s)) ((ps0 ++ [p]).map pairD) y3 s4 s5 y8 y9 y10 s11)) := e3
    have hrg2 : rng1 [.int 40] = some (rngL 0 40) := hrg
    simp only [forF, toI, nI, consA, nilA, kD]
    simp [-forL, -List.map_append, hrg2]
    exact hz
  generalize (ps0 ++ [p]).map (docP c s) = sts at hl
  generalize (ps0 ++ [p]).map pairD = prs at hx
  refine sw_new (d := ruleD c s) (rl := ruleD c s) rfl rfl rfl (fun x => init_F x c s hr) fun a2 l2 => ?_
  simp only [ρl, List.set_cons_succ, List.set_cons_zero]
  obtain ⟨st2, z5, e4, hl2, hln2⟩ := twin_loop C a2 l2 c s hr (.raw (.ref a)) (.own bs3) (.dat (ruleD c s)) y3 (.doc C a1 l1 (ruleD c s) sts) (.dat (.list prs)) y8 y9 y10 s11 p.1 [] [z_m_init] s5 rfl hp2 (by simpa using hp1) (by simp; omega)
  rw [List.nil_append] at hl2
  have hpd : pairD p = .tuple [.tuple (intsD p.1), .int p.2] := rfl
  have hx2 := hx
  rw [hpd] at hx2
  refine sw (ρ1 := [.raw (.ref a), .own bs3, .dat (ruleD c s), y3, .doc C a2 l2 (ruleD c s) st2, z5, .doc C a1 l1 (ruleD c s) sts, .dat (.list prs), y8, y9, y10, s11]) ?_ ?_
  · simp only [ruleD] at e4
    simp [-forL, hx2]
    exact e4
  have ca := call_ok a2 l2 c s hr st2 p.1 (endP 0 p.1) hl2 (by rw [hln2]; simp; omega) p.2 hp3 (by omega) hp1
  refine sw (ρ1 := [.raw (.ref a), .own bs3, .dat (ruleD c s), y3, .doc C a2 l2 (ruleD c s) (st2 ++ [docS c s p.1 p.2]), z5, .doc C a1 l1 (ruleD c s) sts, .dat (.list prs), y8, y9, y10, s11]) ?_ ?_
  · simp only [ruleD] at ca
    simp [docG, hx2, ca]
  refine ⟨_, eq_check C a1 l1 a2 l2 c s (by omega) ⟨by omega, by omega⟩ sts (st2 ++ [docS c s p.1 p.2]) prs p.1 p.2 hl (by simp) hx _ _ _ _ _ _ _ _, _, rfl, rfl, rfl⟩
theorem law_true (C a : Addr) (ns : List Int) (hns : ns.length ≤ 63) : b_law C a ns (.raw (.ref a) :: List.replicate 11 .nil) fun r => ∃ ρ', r = .rt (.bool true) ρ' := by
  have hl : (cellsOf ns 5).length ≤ 64 := by unfold cellsOf; rw [List.length_append, List.length_take]; simp; omega
  unfold b_law
  refine ⟨rfl, JL a, ⟨rfl, rfl⟩, fun cc hcc ρ1 j => law_body C a _ ρ1 (bags_bag _ 0 100000 (by omega) cc hcc) j, fun ρ2 j => ?_⟩
  intro a3 l3
  obtain ⟨s0, s1, s2, s3, s4, s5, s6, s7, s8, s9, s10, s11, rfl⟩ := ex12 j.1
  simp only [List.set_cons_succ, List.set_cons_zero]
  have ed := edit_ok a3 l3 1 1 (by decide) [z_m_init] [] 0 rfl (by decide) [3, 3] ⟨by decide, by decide, by decide, by decide, trivial⟩ (by decide)
  have v1 : opN 1 1 (endP 0 [3, 3]) ([] ++ [3, 3]) = 0 := by decide +kernel
  have v2 : dnT 1 1 (endP 0 [3, 3]) ([] ++ [3, 3]) = [3, 3] := by decide +kernel
  rw [v1] at ed
  have hlast : ([z_m_init] ++ [docS 1 1 ([] ++ [3, 3]) (endP 0 [3, 3])]).getLast? = some (docS 1 1 ([] ++ [3, 3]) (endP 0 [3, 3])) := rfl
  have sv := saved_F a3 1 1 _ _ _ hlast
  have co := contains_F a3 1 1 _ _ _ hlast 3
  have bo := bool_F a3 1 1 _ _ _ hlast
  rw [v2] at sv co
  rw [v1] at bo
  generalize [z_m_init] ++ [docS 1 1 ([] ++ [3, 3]) (endP 0 [3, 3])] = sts at ed sv co bo
  have ed2 : F_m_edit a3 l3 (.tuple [.int 1, .int 1]) [z_m_init] [.int 3, .int 3] = some (.ok (.int 0) sts) := ed
  have sv2 : F_m_saved a3 (.tuple [.int 1, .int 1]) sts [] = some (.tuple [.int 3, .int 3]) := sv
  have co2 : F_m_contains a3 (.tuple [.int 1, .int 1]) sts [.int 3] = some (.bool true) := co
  have bo2 : F_m_bool a3 (.tuple [.int 1, .int 1]) sts [] = some (.bool false) := bo
  have g : SeqAt.shaped (.tuple [.int 3, .int 3]) = true := shaped_intsT [3, 3]
  refine ⟨.rt (.bool true) [s0, s1, s2, s3, s4, s5, s6, s7, s8, s9, s10, .doc C a3 l3 (.tuple [.int 1, .int 1]) sts], ?_, _, rfl⟩
  simp [docG, docR, ed2, sv2, co2, bo2, g]

end My

namespace My
open PySem PySem.Spec
open PyProof.Rows hiding St
open L2 DL
noncomputable section
section
variable {P : Program} {w : World} {K : PySem.W.Frag} {mg : Str → Option Value} {base : Heap} {ad : Adr}
end
theorem all_mk {l : PySem.W.OpenLaw} {w : World} {K : PySem.W.Frag} {h : Heap} {mg : Str → Option Value} {fa f0 f1 f2 f3 f4 f5 f6 f7 f8 f9 f10 f11 f12 f13 f14 f15 f16 f17 : Addr} (X : K.In h) (G : h.Ns mainGlobals mg) (hfa : mg "law" = some (.ref fa))
    {od0 an0 od1 an1 od2 an2 od3 an3 od4 an4 od5 an5 od6 an6 od7 an7 od8 an8 od9 an9 od10 an10 od11 an11 od12 an12 od13 an13 od14 an14 od15 an15 od16 an16 od17 an17 : Option Addr} {sl0 sl1 sl2 sl3 sl4 sl5 sl6 sl7 sl8 sl9 sl10 sl11 sl12 sl13 sl14 sl15 sl16 sl17 : Array (Option Value)} {oc0 kV0 dc0 pm0 ct0 cd0 oc1 kV1 dc1 pm1 ct1 cd1 oc2 kV2 dc2 pm2 ct2 cd2 oc3 kV3 dc3 pm3 ct3 cd3 oc4 kV4 dc4 pm4 ct4 cd4 oc5 kV5 dc5 pm5 ct5 cd5 oc6 kV6 dc6 pm6 ct6 cd6 oc7 kV7 dc7 pm7 ct7 cd7 oc8 kV8 dc8 pm8 ct8 cd8 oc9 kV9 dc9 pm9 ct9 cd9 oc10 kV10 dc10 pm10 ct10 cd10 oc11 kV11 dc11 pm11 ct11 cd11 oc12 kV12 dc12 pm12 ct12 cd12 oc13 kV13 dc13 pm13 ct13 cd13 oc14 kV14 dc14 pm14 ct14 cd14 oc15 kV15 dc15 pm15 ct15 cd15 oc16 kV16 dc16 pm16 ct16 oc17 kV17 dc17 pm17 ct17 : Value} {cc16 cP16 cc17 cP17 qS q0 q1 q2 q3 q4 q5 q6 q7 : Addr} {t0 t1 t2 : Tok}
    {dC fm0 fm1 pm1_ fm2 fm3 fm4 fm5 fm6 pm6_ fm7 pm7_ fm8 pm8_ fm9 pm9_ fm10 fm11 fm12 fm13 : Addr} {dm0 am0 dm1 am1 dm2 am2 dm3 am3 dm4 am4 dm5 am5 dm6 am6 dm7 am7 dm8 am8 dm9 am9 dm10 am10 dm11 am11 dm12 am12 dm13 am13 : Option Addr} {sm0 sm1 sm2 sm3 sm4 sm5 sm6 sm7 sm8 sm9 sm10 sm11 sm12 sm13 : Array (Option Value)} {om0 vm0 docm0 wm0 xm0 ym0 om1 vm1 docm1 wm1 xm1 ym1 om2 vm2 docm2 wm2 xm2 ym2 om3 vm3 docm3 wm3 xm3 ym3 om4 vm4 docm4 wm4 xm4 ym4 om5 vm5 docm5 wm5 xm5 ym5 om6 vm6 docm6 wm6 xm6 ym6 om7 vm7 docm7 wm7 xm7 ym7 om8 vm8 docm8 wm8 xm8 ym8 om9 vm9 docm9 wm9 xm9 ym9 om10 vm10 docm10 wm10 xm10 ym10 om11 vm11 docm11 wm11 xm11 ym11 om12 vm12 docm12 wm12 xm12 ym12 om13 vm13 docm13 wm13 xm13 ym13 : Value} {tM : Tok} {rm1 rm6 rm7 rm8 rm9 : List Value}
    {uc16 : Value} {ud16 : Option Addr} {vs16 : Array Value} {us16 : Array (Option Value)}
    {uc17 : Value} {ud17 : Option Addr} {vs17 : Array Value} {us17 : Array (Option Value)}
    (a0 : PySem.W.nsIn K mainGlobals "in_range" = some (some (.ref f0)))
    (l0 : K.lookup f0 = some ⟨oc0, od0, .func (PySem.W.fnOf "in_range" "in_range" (defArgs st_in_range) (defBody st_in_range) (defScope st_in_range) .none kV0 dc0 pm0 an0 cd0 ct0), sl0⟩)
    (c0 : PySem.W.codeIn K cd0 "in_range" = true)
    (k0 : PySem.W.keepIn K (.ref f0) = true)
    (a1 : PySem.W.nsIn K mainGlobals "is_rule" = some (some (.ref f1)))
    (l1 : K.lookup f1 = some ⟨oc1, od1, .func (PySem.W.fnOf "is_rule" "is_rule" (defArgs st_is_rule) (defBody st_is_rule) (defScope st_is_rule) .none kV1 dc1 pm1 an1 cd1 ct1), sl1⟩)
    (c1 : PySem.W.codeIn K cd1 "is_rule" = true)
    (k1 : PySem.W.keepIn K (.ref f1) = true)
    (a2 : PySem.W.nsIn K mainGlobals "check_rule" = some (some (.ref f2)))
    (l2 : K.lookup f2 = some ⟨oc2, od2, .func (PySem.W.fnOf "check_rule" "check_rule" (defArgs st_check_rule) (defBody st_check_rule) (defScope st_check_rule) .none kV2 dc2 pm2 an2 cd2 ct2), sl2⟩)
    (c2 : PySem.W.codeIn K cd2 "check_rule" = true)
    (k2 : PySem.W.keepIn K (.ref f2) = true)
    (a3 : PySem.W.nsIn K mainGlobals "played" = some (some (.ref f3)))
    (l3 : K.lookup f3 = some ⟨oc3, od3, .func (PySem.W.fnOf "played" "played" (defArgs st_played) (defBody st_played) (defScope st_played) .none kV3 dc3 pm3 an3 cd3 ct3), sl3⟩)
    (c3 : PySem.W.codeIn K cd3 "played" = true)
    (k3 : PySem.W.keepIn K (.ref f3) = true)
    (a4 : PySem.W.nsIn K mainGlobals "unsaved_at" = some (some (.ref f4)))
    (l4 : K.lookup f4 = some ⟨oc4, od4, .func (PySem.W.fnOf "unsaved_at" "unsaved_at" (defArgs st_unsaved_at) (defBody st_unsaved_at) (defScope st_unsaved_at) .none kV4 dc4 pm4 an4 cd4 ct4), sl4⟩)
    (c4 : PySem.W.codeIn K cd4 "unsaved_at" = true)
    (k4 : PySem.W.keepIn K (.ref f4) = true)
    (a5 : PySem.W.nsIn K mainGlobals "_law_well" = some (some (.ref f5)))
    (l5 : K.lookup f5 = some ⟨oc5, od5, .func (PySem.W.fnOf "_law_well" "_law_well" (defArgs st_law_well) (defBody st_law_well) (defScope st_law_well) .none kV5 dc5 pm5 an5 cd5 ct5), sl5⟩)
    (c5 : PySem.W.codeIn K cd5 "_law_well" = true)
    (k5 : PySem.W.keepIn K (.ref f5) = true)
    (a6 : PySem.W.nsIn K mainGlobals "_law_take" = some (some (.ref f6)))
    (l6 : K.lookup f6 = some ⟨oc6, od6, .func (PySem.W.fnOf "_law_take" "_law_take" (defArgs st_law_take) (defBody st_law_take) (defScope st_law_take) .none kV6 dc6 pm6 an6 cd6 ct6), sl6⟩)
    (c6 : PySem.W.codeIn K cd6 "_law_take" = true)
    (k6 : PySem.W.keepIn K (.ref f6) = true)
    (a7 : PySem.W.nsIn K mainGlobals "_law_bags" = some (some (.ref f7)))
    (l7 : K.lookup f7 = some ⟨oc7, od7, .func (PySem.W.fnOf "_law_bags" "_law_bags" (defArgs st_law_bags) (defBody st_law_bags) (defScope st_law_bags) .none kV7 dc7 pm7 an7 cd7 ct7), sl7⟩)
    (c7 : PySem.W.codeIn K cd7 "_law_bags" = true)
    (k7 : PySem.W.keepIn K (.ref f7) = true)
    (a8 : PySem.W.nsIn K mainGlobals "_law_same" = some (some (.ref f8)))
    (l8 : K.lookup f8 = some ⟨oc8, od8, .func (PySem.W.fnOf "_law_same" "_law_same" (defArgs st_law_same) (defBody st_law_same) (defScope st_law_same) .none kV8 dc8 pm8 an8 cd8 ct8), sl8⟩)
    (c8 : PySem.W.codeIn K cd8 "_law_same" = true)
    (k8 : PySem.W.keepIn K (.ref f8) = true)
    (a9 : PySem.W.nsIn K mainGlobals "_law_in" = some (some (.ref f9)))
    (l9 : K.lookup f9 = some ⟨oc9, od9, .func (PySem.W.fnOf "_law_in" "_law_in" (defArgs st_law_in) (defBody st_law_in) (defScope st_law_in) .none kV9 dc9 pm9 an9 cd9 ct9), sl9⟩)
    (c9 : PySem.W.codeIn K cd9 "_law_in" = true)
    (k9 : PySem.W.keepIn K (.ref f9) = true)
    (a10 : PySem.W.nsIn K mainGlobals "_law_error" = some (some (.ref f10)))
    (l10 : K.lookup f10 = some ⟨oc10, od10, .func (PySem.W.fnOf "_law_error" "_law_error" (defArgs st_law_error) (defBody st_law_error) (defScope st_law_error) .none kV10 dc10 pm10 an10 cd10 ct10), sl10⟩)
    (c10 : PySem.W.codeIn K cd10 "_law_error" = true)
    (k10 : PySem.W.keepIn K (.ref f10) = true)
    (a11 : PySem.W.nsIn K mainGlobals "_law_outcome" = some (some (.ref f11)))
    (l11 : K.lookup f11 = some ⟨oc11, od11, .func (PySem.W.fnOf "_law_outcome" "_law_outcome" (defArgs st_law_outcome) (defBody st_law_outcome) (defScope st_law_outcome) .none kV11 dc11 pm11 an11 cd11 ct11), sl11⟩)
    (c11 : PySem.W.codeIn K cd11 "_law_outcome" = true)
    (k11 : PySem.W.keepIn K (.ref f11) = true)
    (a12 : PySem.W.nsIn K mainGlobals "_law_play" = some (some (.ref f12)))
    (l12 : K.lookup f12 = some ⟨oc12, od12, .func (PySem.W.fnOf "_law_play" "_law_play" (defArgs st_law_play) (defBody st_law_play) (defScope st_law_play) .none kV12 dc12 pm12 an12 cd12 ct12), sl12⟩)
    (c12 : PySem.W.codeIn K cd12 "_law_play" = true)
    (k12 : PySem.W.keepIn K (.ref f12) = true)
    (a13 : PySem.W.nsIn K mainGlobals "_law_open" = some (some (.ref f13)))
    (l13 : K.lookup f13 = some ⟨oc13, od13, .func (PySem.W.fnOf "_law_open" "_law_open" (defArgs st_law_open) (defBody st_law_open) (defScope st_law_open) .none kV13 dc13 pm13 an13 cd13 ct13), sl13⟩)
    (c13 : PySem.W.codeIn K cd13 "_law_open" = true)
    (k13 : PySem.W.keepIn K (.ref f13) = true)
    (a14 : PySem.W.nsIn K mainGlobals "_law_edit" = some (some (.ref f14)))
    (l14 : K.lookup f14 = some ⟨oc14, od14, .func (PySem.W.fnOf "_law_edit" "_law_edit" (defArgs st_law_edit) (defBody st_law_edit) (defScope st_law_edit) .none kV14 dc14 pm14 an14 cd14 ct14), sl14⟩)
    (c14 : PySem.W.codeIn K cd14 "_law_edit" = true)
    (k14 : PySem.W.keepIn K (.ref f14) = true)
    (a15 : PySem.W.nsIn K mainGlobals "_law_right" = some (some (.ref f15)))
    (l15 : K.lookup f15 = some ⟨oc15, od15, .func (PySem.W.fnOf "_law_right" "_law_right" (defArgs st_law_right) (defBody st_law_right) (defScope st_law_right) .none kV15 dc15 pm15 an15 cd15 ct15), sl15⟩)
    (c15 : PySem.W.codeIn K cd15 "_law_right" = true)
    (k15 : PySem.W.keepIn K (.ref f15) = true)
    (a16 : PySem.W.nsIn K mainGlobals "_law_step" = some (some (.ref f16)))
    (l16 : K.lookup f16 = some ⟨oc16, od16, .func (PySem.W.fnOf "_law_step" "_law_step" (defArgs st_law_step) (defBody st_law_step) (defScope st_law_step) .none kV16 dc16 pm16 an16 (.ref cc16) ct16), sl16⟩)
    (c16 : PySem.W.codeIn K (.ref cc16) "_law_step" = true)
    (k16 : PySem.W.keepIn K (.ref f16) = true)
    (tc16 : K.lookup cc16 = some ⟨uc16, ud16, .fields vs16, us16⟩)
    (tb16 : vs16[11]? = some (Value.ref cP16))
    (ch16 : PySem.W.codeHdIn K cc16 cP16 = true)
    (nn16 : K.lookup cP16 = none)
    (hp16 : h.get? cP16 = some { cls := .none, data := .fields #[] })
    (a17 : PySem.W.nsIn K mainGlobals "law" = some (some (.ref f17)))
    (l17 : K.lookup f17 = some ⟨oc17, od17, .func (PySem.W.fnOf "law" "law" (defArgs st_law) (defBody st_law) (defScope st_law) .none kV17 dc17 pm17 an17 (.ref cc17) ct17), sl17⟩)
    (c17 : PySem.W.codeIn K (.ref cc17) "law" = true)
    (k17 : PySem.W.keepIn K (.ref f17) = true)
    (tc17 : K.lookup cc17 = some ⟨uc17, ud17, .fields vs17, us17⟩)
    (tb17 : vs17[11]? = some (Value.ref cP17))
    (ch17 : PySem.W.codeHdIn K cc17 cP17 = true)
    (nn17 : K.lookup cP17 = none)
    (hp17 : h.get? cP17 = some { cls := .none, data := .fields #[] })
    (z0 : PySem.W.nsIn K mainGlobals "all" = some none)
    (z1 : PySem.W.nsIn K mainGlobals "bool" = some none)
    (z2 : PySem.W.nsIn K mainGlobals "enumerate" = some none)
    (z3 : PySem.W.nsIn K mainGlobals "int" = some none)
    (z4 : PySem.W.nsIn K mainGlobals "isinstance" = some none)
    (z5 : PySem.W.nsIn K mainGlobals "len" = some none)
    (z6 : PySem.W.nsIn K mainGlobals "list" = some none)
    (z7 : PySem.W.nsIn K mainGlobals "max" = some none)
    (z8 : PySem.W.nsIn K mainGlobals "range" = some none)
    (z9 : PySem.W.nsIn K mainGlobals "str" = some none)
    (z10 : PySem.W.nsIn K mainGlobals "tuple" = some none)
    (z11 : PySem.W.nsIn K mainGlobals "zip" = some none)
    (qs : PySem.W.nsIn K mainGlobals "SaveError" = some (some (.ref qS)))
    (qc0 : PySem.W.nsIn K mainGlobals "InvalidRule" = some (some (.ref q0)))
    (qc1 : PySem.W.nsIn K mainGlobals "InvalidLog" = some (some (.ref q1)))
    (qc2 : PySem.W.nsIn K mainGlobals "InvalidTime" = some (some (.ref q2)))
    (qc3 : PySem.W.nsIn K mainGlobals "InvalidNumber" = some (some (.ref q3)))
    (qc4 : PySem.W.nsIn K mainGlobals "InvalidIndex" = some (some (.ref q4)))
    (qc5 : PySem.W.nsIn K mainGlobals "InvalidSeen" = some (some (.ref q5)))
    (qc6 : PySem.W.nsIn K mainGlobals "NothingToUndo" = some (some (.ref q6)))
    (qc7 : PySem.W.nsIn K mainGlobals "TooMany" = some (some (.ref q7)))
    (xn : PySem.W.specialIn K (.builtin "object.__class__") "__get__" = some (some (.builtin "getset_descriptor.__get__")))
    (xt : PySem.W.takesIn K (.builtin "object.__class__") = some true)
    (ex0 : PySem.W.excIn K q0 [.type "ValueError", .type "Exception", .type "BaseException", .type "object"] "ValueError.__new__" = true)
    (ek0 : PySem.W.keepIn K (.ref q0) = true)
    (et0 : PySem.W.typeIn K (.ref q0) = some (.type "type"))
    (xhg0 : PySem.W.findIn K (.ref q0) "__getattribute__" = some (some (.builtin "BaseException.__getattribute__")))
    (xhk0 : PySem.W.findIn K (.ref q0) "__getattr__" = some none)
    (xhs0 : PySem.W.subIn K (.ref q0) (.type "BaseException") = some true)
    (xhd0 : PySem.W.hasDictIn K q0 = true)
    (xha0 : PySem.W.findIn K (.ref q0) "__class__" = some (some (.builtin "object.__class__")))
    (xhm0 : PySem.W.mroIn K q0 (.type "object") = some true)
    (em0 : PySem.W.exmOne K (.ref q0) (.ref qS) = some true)
    (ki0_0 : PySem.W.kitOne K (.ref q0) (.ref q0) = some true)
    (ki0_1 : PySem.W.kitOne K (.ref q0) (.ref q1) = some false)
    (ki0_2 : PySem.W.kitOne K (.ref q0) (.ref q2) = some false)
    (ki0_3 : PySem.W.kitOne K (.ref q0) (.ref q3) = some false)
    (ki0_4 : PySem.W.kitOne K (.ref q0) (.ref q4) = some false)
    (ki0_5 : PySem.W.kitOne K (.ref q0) (.ref q5) = some false)
    (ki0_6 : PySem.W.kitOne K (.ref q0) (.ref q6) = some false)
    (ki0_7 : PySem.W.kitOne K (.ref q0) (.ref q7) = some false)
    (ex2 : PySem.W.excIn K q2 [.type "ValueError", .type "Exception", .type "BaseException", .type "object"] "ValueError.__new__" = true)
    (ek2 : PySem.W.keepIn K (.ref q2) = true)
    (et2 : PySem.W.typeIn K (.ref q2) = some (.type "type"))
    (xhg2 : PySem.W.findIn K (.ref q2) "__getattribute__" = some (some (.builtin "BaseException.__getattribute__")))
    (xhk2 : PySem.W.findIn K (.ref q2) "__getattr__" = some none)
    (xhs2 : PySem.W.subIn K (.ref q2) (.type "BaseException") = some true)
    (xhd2 : PySem.W.hasDictIn K q2 = true)
    (xha2 : PySem.W.findIn K (.ref q2) "__class__" = some (some (.builtin "object.__class__")))
    (xhm2 : PySem.W.mroIn K q2 (.type "object") = some true)
    (em2 : PySem.W.exmOne K (.ref q2) (.ref qS) = some true)
    (ki2_0 : PySem.W.kitOne K (.ref q2) (.ref q0) = some false)
    (ki2_1 : PySem.W.kitOne K (.ref q2) (.ref q1) = some false)
    (ki2_2 : PySem.W.kitOne K (.ref q2) (.ref q2) = some true)
    (ki2_3 : PySem.W.kitOne K (.ref q2) (.ref q3) = some false)
    (ki2_4 : PySem.W.kitOne K (.ref q2) (.ref q4) = some false)
    (ki2_5 : PySem.W.kitOne K (.ref q2) (.ref q5) = some false)
    (ki2_6 : PySem.W.kitOne K (.ref q2) (.ref q6) = some false)
    (ki2_7 : PySem.W.kitOne K (.ref q2) (.ref q7) = some false)
    (ex6 : PySem.W.excIn K q6 [.type "ValueError", .type "Exception", .type "BaseException", .type "object"] "ValueError.__new__" = true)
    (ek6 : PySem.W.keepIn K (.ref q6) = true)
    (et6 : PySem.W.typeIn K (.ref q6) = some (.type "type"))
    (xhg6 : PySem.W.findIn K (.ref q6) "__getattribute__" = some (some (.builtin "BaseException.__getattribute__")))
    (xhk6 : PySem.W.findIn K (.ref q6) "__getattr__" = some none)
    (xhs6 : PySem.W.subIn K (.ref q6) (.type "BaseException") = some true)
    (xhd6 : PySem.W.hasDictIn K q6 = true)
    (xha6 : PySem.W.findIn K (.ref q6) "__class__" = some (some (.builtin "object.__class__")))
    (xhm6 : PySem.W.mroIn K q6 (.type "object") = some true)
    (em6 : PySem.W.exmOne K (.ref q6) (.ref qS) = some true)
    (ki6_0 : PySem.W.kitOne K (.ref q6) (.ref q0) = some false)
    (ki6_1 : PySem.W.kitOne K (.ref q6) (.ref q1) = some false)
    (ki6_2 : PySem.W.kitOne K (.ref q6) (.ref q2) = some false)
    (ki6_3 : PySem.W.kitOne K (.ref q6) (.ref q3) = some false)
    (ki6_4 : PySem.W.kitOne K (.ref q6) (.ref q4) = some false)
    (ki6_5 : PySem.W.kitOne K (.ref q6) (.ref q5) = some false)
    (ki6_6 : PySem.W.kitOne K (.ref q6) (.ref q6) = some true)
    (ki6_7 : PySem.W.kitOne K (.ref q6) (.ref q7) = some false)
    (ex7 : PySem.W.excIn K q7 [.type "ValueError", .type "Exception", .type "BaseException", .type "object"] "ValueError.__new__" = true)
    (ek7 : PySem.W.keepIn K (.ref q7) = true)
    (et7 : PySem.W.typeIn K (.ref q7) = some (.type "type"))
    (xhg7 : PySem.W.findIn K (.ref q7) "__getattribute__" = some (some (.builtin "BaseException.__getattribute__")))
    (xhk7 : PySem.W.findIn K (.ref q7) "__getattr__" = some none)
    (xhs7 : PySem.W.subIn K (.ref q7) (.type "BaseException") = some true)
    (xhd7 : PySem.W.hasDictIn K q7 = true)
    (xha7 : PySem.W.findIn K (.ref q7) "__class__" = some (some (.builtin "object.__class__")))
    (xhm7 : PySem.W.mroIn K q7 (.type "object") = some true)
    (em7 : PySem.W.exmOne K (.ref q7) (.ref qS) = some true)
    (ki7_0 : PySem.W.kitOne K (.ref q7) (.ref q0) = some false)
    (ki7_1 : PySem.W.kitOne K (.ref q7) (.ref q1) = some false)
    (ki7_2 : PySem.W.kitOne K (.ref q7) (.ref q2) = some false)
    (ki7_3 : PySem.W.kitOne K (.ref q7) (.ref q3) = some false)
    (ki7_4 : PySem.W.kitOne K (.ref q7) (.ref q4) = some false)
    (ki7_5 : PySem.W.kitOne K (.ref q7) (.ref q5) = some false)
    (ki7_6 : PySem.W.kitOne K (.ref q7) (.ref q6) = some false)
    (ki7_7 : PySem.W.kitOne K (.ref q7) (.ref q7) = some true)
    (w0 : PySem.W.nsIn K mainGlobals "LAST" = some (some (.int 1000000 t0)))
    (w1 : PySem.W.nsIn K mainGlobals "MOST_COUNT" = some (some (.int 20 t1)))
    (w2 : PySem.W.nsIn K mainGlobals "MOST_IDLE" = some (some (.int 1000 t2)))
    (dhC : PySem.W.nsIn K mainGlobals "Document" = some (some (.ref dC)))
    (dpg : PySem.W.plainGet K dC Str.empty = true)
    (dhd : PySem.W.hasDictIn K dC = true)
    (dpo : PySem.W.plainOver K dC = true)
    (dsa : PySem.W.findIn K (.ref dC) "__setattr__" = some (some (.builtin "object.__setattr__")))
    (dmk : PySem.W.makesIn K dC = true)
    (dkc : PySem.W.keepIn K (.ref dC) = true)
    (dnr : PySem.W.findIn K (.ref dC) "rule" = some none)
    (dns : PySem.W.findIn K (.ref dC) "states" = some none)
    (dmo : PySem.W.findIn K (.ref dC) "MOST" = some (some (.int 60 tM)))
    (dmg : PySem.W.specialIn K (.int 60 tM) "__get__" = some none)
    (dca : PySem.W.findIn K (.ref dC) "__class__" = some (some (.builtin "object.__class__")))
    (dmm : PySem.W.mroIn K dC (.type "object") = some true)
    (dkk : PySem.W.kitOne K (.ref dC) (.ref dC) = some true)
    (dkt : PySem.W.kitOne K (.type "tuple") (.ref dC) = some false)
    (dnt : PySem.W.notFirst K dC (.type "tuple") = true)
    (dri : PySem.W.readsIn K dC (.type "type") = true)
    (drg : PySem.W.specialIn K (.ref dC) "__getattribute__" = some (some (.builtin "type.__getattribute__")))
    (dfm : PySem.W.findCls K (.ref dC) (.type "type") "MOST" = some (.val (.int 60 tM)))
    (ma0 : PySem.W.findIn K (.ref dC) "__init__" = some (some (.ref fm0)))
    (ml0 : K.lookup fm0 = some ⟨om0, dm0, .func (PySem.W.fnOf "__init__" "Document.__init__" (defArgs st_m_init) (defBody st_m_init) (defScope st_m_init) .none vm0 docm0 wm0 am0 xm0 ym0), sm0⟩)
    (mc0 : PySem.W.codeIn K xm0 "Document.__init__" = true)
    (mk0 : PySem.W.keepIn K (.ref fm0) = true)
    (mi0 : PySem.W.isFn K (.ref fm0) = true)
    (mf0 : PySem.W.fnIn K fm0 = true)
    (ma1 : PySem.W.findCls K (.ref dC) (.type "type") "careful" = some (.get (.builtin "classmethod.__get__") (.ref pm1_) .none (.ref dC)))
    (mr1 : PySem.W.recIn K pm1_ "classmethod" = some (.ref fm1 :: rm1))
    (ml1 : K.lookup fm1 = some ⟨om1, dm1, .func (PySem.W.fnOf "careful" "Document.careful" (defArgs st_m_careful) (defBody st_m_careful) (defScope st_m_careful) .none vm1 docm1 wm1 am1 xm1 ym1), sm1⟩)
    (mc1 : PySem.W.codeIn K xm1 "Document.careful" = true)
    (mk1 : PySem.W.keepIn K (.ref fm1) = true)
    (mf1 : PySem.W.fnIn K fm1 = true)
    (ma2 : PySem.W.findIn K (.ref dC) "keep" = some (some (.ref fm2)))
    (ml2 : K.lookup fm2 = some ⟨om2, dm2, .func (PySem.W.fnOf "keep" "Document.keep" (defArgs st_m_keep) (defBody st_m_keep) (defScope st_m_keep) .none vm2 docm2 wm2 am2 xm2 ym2), sm2⟩)
    (mc2 : PySem.W.codeIn K xm2 "Document.keep" = true)
    (mk2 : PySem.W.keepIn K (.ref fm2) = true)
    (mi2 : PySem.W.isFn K (.ref fm2) = true)
    (mf2 : PySem.W.fnIn K fm2 = true)
    (ma3 : PySem.W.findIn K (.ref dC) "edit" = some (some (.ref fm3)))
    (ml3 : K.lookup fm3 = some ⟨om3, dm3, .func (PySem.W.fnOf "edit" "Document.edit" (defArgs st_m_edit) (defBody st_m_edit) (defScope st_m_edit) .none vm3 docm3 wm3 am3 xm3 ym3), sm3⟩)
    (mc3 : PySem.W.codeIn K xm3 "Document.edit" = true)
    (mk3 : PySem.W.keepIn K (.ref fm3) = true)
    (mi3 : PySem.W.isFn K (.ref fm3) = true)
    (mf3 : PySem.W.fnIn K fm3 = true)
    (ma4 : PySem.W.findIn K (.ref dC) "__call__" = some (some (.ref fm4)))
    (ml4 : K.lookup fm4 = some ⟨om4, dm4, .func (PySem.W.fnOf "__call__" "Document.__call__" (defArgs st_m_call) (defBody st_m_call) (defScope st_m_call) .none vm4 docm4 wm4 am4 xm4 ym4), sm4⟩)
    (mc4 : PySem.W.codeIn K xm4 "Document.__call__" = true)
    (mk4 : PySem.W.keepIn K (.ref fm4) = true)
    (mi4 : PySem.W.isFn K (.ref fm4) = true)
    (mf4 : PySem.W.fnIn K fm4 = true)
    (ma5 : PySem.W.findIn K (.ref dC) "undo" = some (some (.ref fm5)))
    (ml5 : K.lookup fm5 = some ⟨om5, dm5, .func (PySem.W.fnOf "undo" "Document.undo" (defArgs st_m_undo) (defBody st_m_undo) (defScope st_m_undo) .none vm5 docm5 wm5 am5 xm5 ym5), sm5⟩)
    (mc5 : PySem.W.codeIn K xm5 "Document.undo" = true)
    (mk5 : PySem.W.keepIn K (.ref fm5) = true)
    (mi5 : PySem.W.isFn K (.ref fm5) = true)
    (mf5 : PySem.W.fnIn K fm5 = true)
    (ma6 : PySem.W.findIn K (.ref dC) "edits" = some (some (.ref pm6_)))
    (mg6 : PySem.W.specialIn K (.ref pm6_) "__get__" = some (some (.builtin "property.__get__")))
    (mt6 : PySem.W.takesIn K (.ref pm6_) = some true)
    (mr6 : PySem.W.recIn K pm6_ "property" = some (.ref fm6 :: rm6))
    (ml6 : K.lookup fm6 = some ⟨om6, dm6, .func (PySem.W.fnOf "edits" "Document.edits" (defArgs st_m_edits) (defBody st_m_edits) (defScope st_m_edits) .none vm6 docm6 wm6 am6 xm6 ym6), sm6⟩)
    (mc6 : PySem.W.codeIn K xm6 "Document.edits" = true)
    (mk6 : PySem.W.keepIn K (.ref fm6) = true)
    (ma7 : PySem.W.findIn K (.ref dC) "time" = some (some (.ref pm7_)))
    (mg7 : PySem.W.specialIn K (.ref pm7_) "__get__" = some (some (.builtin "property.__get__")))
    (mt7 : PySem.W.takesIn K (.ref pm7_) = some true)
    (mr7 : PySem.W.recIn K pm7_ "property" = some (.ref fm7 :: rm7))
    (ml7 : K.lookup fm7 = some ⟨om7, dm7, .func (PySem.W.fnOf "time" "Document.time" (defArgs st_m_time) (defBody st_m_time) (defScope st_m_time) .none vm7 docm7 wm7 am7 xm7 ym7), sm7⟩)
    (mc7 : PySem.W.codeIn K xm7 "Document.time" = true)
    (mk7 : PySem.W.keepIn K (.ref fm7) = true)
    (ma8 : PySem.W.findIn K (.ref dC) "unsaved" = some (some (.ref pm8_)))
    (mg8 : PySem.W.specialIn K (.ref pm8_) "__get__" = some (some (.builtin "property.__get__")))
    (mt8 : PySem.W.takesIn K (.ref pm8_) = some true)
    (mr8 : PySem.W.recIn K pm8_ "property" = some (.ref fm8 :: rm8))
    (ml8 : K.lookup fm8 = some ⟨om8, dm8, .func (PySem.W.fnOf "unsaved" "Document.unsaved" (defArgs st_m_unsaved) (defBody st_m_unsaved) (defScope st_m_unsaved) .none vm8 docm8 wm8 am8 xm8 ym8), sm8⟩)
    (mc8 : PySem.W.codeIn K xm8 "Document.unsaved" = true)
    (mk8 : PySem.W.keepIn K (.ref fm8) = true)
    (ma9 : PySem.W.findIn K (.ref dC) "saved" = some (some (.ref pm9_)))
    (mg9 : PySem.W.specialIn K (.ref pm9_) "__get__" = some (some (.builtin "property.__get__")))
    (mt9 : PySem.W.takesIn K (.ref pm9_) = some true)
    (mr9 : PySem.W.recIn K pm9_ "property" = some (.ref fm9 :: rm9))
    (ml9 : K.lookup fm9 = some ⟨om9, dm9, .func (PySem.W.fnOf "saved" "Document.saved" (defArgs st_m_saved) (defBody st_m_saved) (defScope st_m_saved) .none vm9 docm9 wm9 am9 xm9 ym9), sm9⟩)
    (mc9 : PySem.W.codeIn K xm9 "Document.saved" = true)
    (mk9 : PySem.W.keepIn K (.ref fm9) = true)
    (ma10 : PySem.W.findIn K (.ref dC) "__contains__" = some (some (.ref fm10)))
    (ml10 : K.lookup fm10 = some ⟨om10, dm10, .func (PySem.W.fnOf "__contains__" "Document.__contains__" (defArgs st_m_contains) (defBody st_m_contains) (defScope st_m_contains) .none vm10 docm10 wm10 am10 xm10 ym10), sm10⟩)
    (mc10 : PySem.W.codeIn K xm10 "Document.__contains__" = true)
    (mk10 : PySem.W.keepIn K (.ref fm10) = true)
    (mi10 : PySem.W.isFn K (.ref fm10) = true)
    (mf10 : PySem.W.fnIn K fm10 = true)
    (ma11 : PySem.W.findIn K (.ref dC) "__bool__" = some (some (.ref fm11)))
    (ml11 : K.lookup fm11 = some ⟨om11, dm11, .func (PySem.W.fnOf "__bool__" "Document.__bool__" (defArgs st_m_bool) (defBody st_m_bool) (defScope st_m_bool) .none vm11 docm11 wm11 am11 xm11 ym11), sm11⟩)
    (mc11 : PySem.W.codeIn K xm11 "Document.__bool__" = true)
    (mk11 : PySem.W.keepIn K (.ref fm11) = true)
    (mi11 : PySem.W.isFn K (.ref fm11) = true)
    (mf11 : PySem.W.fnIn K fm11 = true)
    (ma12 : PySem.W.findIn K (.ref dC) "__len__" = some (some (.ref fm12)))
    (ml12 : K.lookup fm12 = some ⟨om12, dm12, .func (PySem.W.fnOf "__len__" "Document.__len__" (defArgs st_m_len) (defBody st_m_len) (defScope st_m_len) .none vm12 docm12 wm12 am12 xm12 ym12), sm12⟩)
    (mc12 : PySem.W.codeIn K xm12 "Document.__len__" = true)
    (mk12 : PySem.W.keepIn K (.ref fm12) = true)
    (mi12 : PySem.W.isFn K (.ref fm12) = true)
    (mf12 : PySem.W.fnIn K fm12 = true)
    (ma13 : PySem.W.findIn K (.ref dC) "__eq__" = some (some (.ref fm13)))
    (ml13 : K.lookup fm13 = some ⟨om13, dm13, .func (PySem.W.fnOf "__eq__" "Document.__eq__" (defArgs st_m_eq) (defBody st_m_eq) (defScope st_m_eq) .none vm13 docm13 wm13 am13 xm13 ym13), sm13⟩)
    (mc13 : PySem.W.codeIn K xm13 "Document.__eq__" = true)
    (mk13 : PySem.W.keepIn K (.ref fm13) = true)
    (mi13 : PySem.W.isFn K (.ref fm13) = true)
    (mf13 : PySem.W.fnIn K fm13 = true)
    (hw : ∀ (C a : Addr) (ns : List Int), ns.length ≤ 63 → b_law C a ns (.raw (.ref a) :: List.replicate 11 .nil) (fun r => ∃ ρ', r = .rt (.bool true) ρ')) : LamX.LawAtS l w K CX0 12 63 "_law_script" mg fa h := by
  have e := hfa.symm.trans (PySem.W.mg_of X G a17)
  cases e
  have F0 := fun_mk (st := st_in_range) l0 c0 k0
  have b0 := F0.binds (ps := ["value", "low", "high"]) fun _ _ _ _ _ _ us hl => match us, hl with | [_, _, _], _ => rfl
  have F1 := fun_mk (st := st_is_rule) l1 c1 k1
  have b1 := F1.binds (ps := ["value"]) fun _ _ _ _ _ _ us hl => match us, hl with | [_], _ => rfl
  have F2 := fun_mk (st := st_check_rule) l2 c2 k2
  have b2 := F2.binds (ps := ["value"]) fun _ _ _ _ _ _ us hl => match us, hl with | [_], _ => rfl
  have F3 := fun_mk (st := st_played) l3 c3 k3
  have b3 := F3.binds (ps := ["rule", "log"]) fun _ _ _ _ _ _ us hl => match us, hl with | [_, _], _ => rfl
  have F4 := fun_mk (st := st_unsaved_at) l4 c4 k4
  have b4 := F4.binds (ps := ["rule", "log", "time"]) fun _ _ _ _ _ _ us hl => match us, hl with | [_, _, _], _ => rfl
  have F5 := fun_mk (st := st_law_well) l5 c5 k5
  have b5 := F5.binds (ps := ["_law_cell", "_law_turn"]) fun _ _ _ _ _ _ us hl => match us, hl with | [_, _], _ => rfl
  have F6 := fun_mk (st := st_law_take) l6 c6 k6
  have b6 := F6.binds (ps := ["_law_bag", "_law_many"]) fun _ _ _ _ _ _ us hl => match us, hl with | [_, _], _ => rfl
  have F7 := fun_mk (st := st_law_bags) l7 c7 k7
  have b7 := F7.binds (ps := ["_law_script", "_law_most"]) fun _ _ _ _ _ _ us hl => match us, hl with | [_, _], _ => rfl
  have F8 := fun_mk (st := st_law_same) l8 c8 k8
  have b8 := F8.binds (ps := ["_law_a", "_law_b"]) fun _ _ _ _ _ _ us hl => match us, hl with | [_, _], _ => rfl
  have F9 := fun_mk (st := st_law_in) l9 c9 k9
  have b9 := F9.binds (ps := ["_law_x", "_law_low", "_law_high"]) fun _ _ _ _ _ _ us hl => match us, hl with | [_, _, _], _ => rfl
  have F10 := fun_mk (st := st_law_error) l10 c10 k10
  have b10 := F10.binds (ps := ["_law_e"]) fun _ _ _ _ _ _ us hl => match us, hl with | [_], _ => rfl
  have F11 := fun_mk (st := st_law_outcome) l11 c11 k11
  have b11 := F11.binds (ps := ["_law_call"]) fun _ _ _ _ _ _ us hl => match us, hl with | [_], _ => rfl
  have F12 := fun_mk (st := st_law_play) l12 c12 k12
  have b12 := F12.binds (ps := ["_law_rule", "_law_log"]) fun _ _ _ _ _ _ us hl => match us, hl with | [_, _], _ => rfl
  have F13 := fun_mk (st := st_law_open) l13 c13 k13
  have b13 := F13.binds (ps := ["_law_rule", "_law_log", "_law_time"]) fun _ _ _ _ _ _ us hl => match us, hl with | [_, _, _], _ => rfl
  have F14 := fun_mk (st := st_law_edit) l14 c14 k14
  have b14 := F14.binds (ps := ["_law_run", "_law_times"]) fun _ _ _ _ _ _ us hl => match us, hl with | [_, _], _ => rfl
  have F15 := fun_mk (st := st_law_right) l15 c15 k15
  have b15 := F15.binds (ps := ["_law_run", "_law_rule", "_law_state"]) fun _ _ _ _ _ _ us hl => match us, hl with | [_, _, _], _ => rfl
  have F16 : FunC K "_law_step" st_law_step f16 cc16 _ := ⟨⟨_, _, _, _, _, _, _, _, rfl, l16, c16⟩, k16⟩
  have b16 : Binds K (PySem.W.fnOf "_law_step" "_law_step" (defArgs st_law_step) (defBody st_law_step) (defScope st_law_step) .none kV16 dc16 pm16 an16 (.ref cc16) ct16) ["_law_bag", "_law_run", "_law_rule", "_law_state"] [] := Binds.all fun us hl => match us, hl with | [_, _, _, _], _ => rfl
  have F17 : FunC K "law" st_law fa cc17 _ := ⟨⟨_, _, _, _, _, _, _, _, rfl, l17, c17⟩, k17⟩
  have MF0 := fun_mk (st := st_m_init) ml0 mc0 mk0
  have mb0 := MF0.binds (ps := ["self", "rule"]) fun _ _ _ _ _ _ us hl => match us, hl with | [_, _], _ => rfl
  have MF1 := fun_mk (st := st_m_careful) ml1 mc1 mk1
  have mb1 := MF1.binds (ps := ["cls"]) fun _ _ _ _ _ _ us hl => match us, hl with | [_], _ => rfl
  have MF2 := fun_mk (st := st_m_keep) ml2 mc2 mk2
  have mb2 := MF2.binds (ps := ["self", "edits", "time"]) fun _ _ _ _ _ _ us hl => match us, hl with | [_, _, _], _ => rfl
  have MF3 := fun_mk (st := st_m_edit) ml3 mc3 mk3
  have mb3 := StX.bind_star1 (B := fun us => bindArgs (PySem.W.fnOf "edit" "Document.edit" (defArgs st_m_edit) (defBody st_m_edit) (defScope st_m_edit) .none vm3 docm3 wm3 am3 xm3 ym3) ⟨us, []⟩) (p1 := "self") (pv := "times") (fun _ => rfl) (fun _ _ _ => rfl)
  have MF4 := fun_mk (st := st_m_call) ml4 mc4 mk4
  have mb4 := MF4.binds (ps := ["self", "time"]) fun _ _ _ _ _ _ us hl => match us, hl with | [_, _], _ => rfl
  have MF5 := fun_mk (st := st_m_undo) ml5 mc5 mk5
  have mb5 := MF5.binds (ps := ["self"]) fun _ _ _ _ _ _ us hl => match us, hl with | [_], _ => rfl
  have MF6 := fun_mk (st := st_m_edits) ml6 mc6 mk6
  have mb6 := MF6.binds (ps := ["self"]) fun _ _ _ _ _ _ us hl => match us, hl with | [_], _ => rfl
  have MF7 := fun_mk (st := st_m_time) ml7 mc7 mk7
  have mb7 := MF7.binds (ps := ["self"]) fun _ _ _ _ _ _ us hl => match us, hl with | [_], _ => rfl
  have MF8 := fun_mk (st := st_m_unsaved) ml8 mc8 mk8
  have mb8 := MF8.binds (ps := ["self"]) fun _ _ _ _ _ _ us hl => match us, hl with | [_], _ => rfl
  have MF9 := fun_mk (st := st_m_saved) ml9 mc9 mk9
  have mb9 := MF9.binds (ps := ["self"]) fun _ _ _ _ _ _ us hl => match us, hl with | [_], _ => rfl
  have MF10 := fun_mk (st := st_m_contains) ml10 mc10 mk10
  have mb10 := MF10.binds (ps := ["self", "time"]) fun _ _ _ _ _ _ us hl => match us, hl with | [_, _], _ => rfl
  have MF11 := fun_mk (st := st_m_bool) ml11 mc11 mk11
  have mb11 := MF11.binds (ps := ["self"]) fun _ _ _ _ _ _ us hl => match us, hl with | [_], _ => rfl
  have MF12 := fun_mk (st := st_m_len) ml12 mc12 mk12
  have mb12 := MF12.binds (ps := ["self"]) fun _ _ _ _ _ _ us hl => match us, hl with | [_], _ => rfl
  have MF13 := fun_mk (st := st_m_eq) ml13 mc13 mk13
  have mb13 := MF13.binds (ps := ["self", "other"]) fun _ _ _ _ _ _ us hl => match us, hl with | [_, _], _ => rfl
  have TD : DocT K mg dC := ⟨⟨⟨dpg, dhd, dpo, dsa⟩, dnr, dns, ⟨_, ⟨dmo, ⟨_, rfl⟩, dmg, by decide +kernel⟩⟩⟩, PySem.W.mg_of X G dhC, dmk, dkc, ⟨PySem.W.mg_of X G dhC, dca, xn, xt, dmm, dkk, dkt, dnt, by simp [PySem.W.notFirst]⟩, ⟨dri, drg⟩, ⟨_, dfm, ⟨_, rfl⟩⟩, ⟨_, _, _, ⟨ma1, ⟨_, mr1⟩, mf1⟩, MF1, mb1⟩, ⟨_, _, MF0, mb0, ma0, mi0, mf0⟩, ⟨_, _, MF2, mb2, ma2, mi2, mf2⟩, ⟨_, _, MF3, mb3, ma3, mi3, mf3⟩, ⟨_, _, MF4, mb4, ma4, mi4, mf4⟩, ⟨_, _, MF5, mb5, ma5, mi5, mf5⟩, ⟨_, _, _, MF6, mb6, ⟨ma6, mg6, mt6, ⟨_, mr6⟩⟩⟩, ⟨_, _, _, MF7, mb7, ⟨ma7, mg7, mt7, ⟨_, mr7⟩⟩⟩, ⟨_, _, _, MF8, mb8, ⟨ma8, mg8, mt8, ⟨_, mr8⟩⟩⟩, ⟨_, _, _, MF9, mb9, ⟨ma9, mg9, mt9, ⟨_, mr9⟩⟩⟩, ⟨_, _, MF10, mb10, ma10, mi10, mf10⟩, ⟨_, _, MF11, mb11, ma11, mi11, mf11⟩, ⟨_, _, MF12, mb12, ma12, mi12, mf12⟩, ⟨_, _, MF13, mb13, ma13, mi13, mf13⟩⟩
  have T : Txt K mg ⟨qS, dC, q0, q1, q2, q3, q4, q5, q6, q7, cc16, cP16, cc17, cP17⟩ := ⟨⟨⟨_, _, F0, b0, PySem.W.mg_of X G a0⟩⟩, ⟨⟨_, _, F1, b1, PySem.W.mg_of X G a1⟩⟩, ⟨⟨_, _, F2, b2, PySem.W.mg_of X G a2⟩⟩, ⟨⟨_, _, F3, b3, PySem.W.mg_of X G a3⟩⟩, ⟨⟨_, _, F4, b4, PySem.W.mg_of X G a4⟩⟩, ⟨⟨_, _, F5, b5, PySem.W.mg_of X G a5⟩⟩, ⟨⟨_, _, F6, b6, PySem.W.mg_of X G a6⟩⟩, ⟨⟨_, _, F7, b7, PySem.W.mg_of X G a7⟩⟩, ⟨⟨_, _, F8, b8, PySem.W.mg_of X G a8⟩⟩, ⟨⟨_, _, F9, b9, PySem.W.mg_of X G a9⟩⟩, ⟨⟨_, _, F10, b10, PySem.W.mg_of X G a10⟩⟩, ⟨⟨_, _, F11, b11, PySem.W.mg_of X G a11⟩⟩, ⟨⟨_, _, F12, b12, PySem.W.mg_of X G a12⟩⟩, ⟨⟨_, _, F13, b13, PySem.W.mg_of X G a13⟩⟩, ⟨⟨_, _, F14, b14, PySem.W.mg_of X G a14⟩⟩, ⟨⟨_, _, F15, b15, PySem.W.mg_of X G a15⟩⟩, ⟨_, _, F16, b16, PySem.W.mg_of X G a16⟩, PySem.W.mg_none_of X G z0, PySem.W.mg_none_of X G z1, PySem.W.mg_none_of X G z2, PySem.W.mg_none_of X G z3, PySem.W.mg_none_of X G z4, PySem.W.mg_none_of X G z5, PySem.W.mg_none_of X G z6, PySem.W.mg_none_of X G z7, PySem.W.mg_none_of X G z8, PySem.W.mg_none_of X G z9, PySem.W.mg_none_of X G z10, PySem.W.mg_none_of X G z11, PySem.W.mg_of X G qs, PySem.W.mg_of X G qc0, PySem.W.mg_of X G qc1, PySem.W.mg_of X G qc2, PySem.W.mg_of X G qc3, PySem.W.mg_of X G qc4, PySem.W.mg_of X G qc5, PySem.W.mg_of X G qc6, PySem.W.mg_of X G qc7, ⟨PySem.W.mg_of X G qc0, ex0, ek0, xhs0, et0⟩, ⟨xhg0, xhk0, xhs0, xhd0, xha0, xn, xt, xhm0⟩, em0, ki0_0, ki0_1, ki0_2, ki0_3, ki0_4, ki0_5, ki0_6, ki0_7, ⟨PySem.W.mg_of X G qc2, ex2, ek2, xhs2, et2⟩, ⟨xhg2, xhk2, xhs2, xhd2, xha2, xn, xt, xhm2⟩, em2, ki2_0, ki2_1, ki2_2, ki2_3, ki2_4, ki2_5, ki2_6, ki2_7, ⟨PySem.W.mg_of X G qc6, ex6, ek6, xhs6, et6⟩, ⟨xhg6, xhk6, xhs6, xhd6, xha6, xn, xt, xhm6⟩, em6, ki6_0, ki6_1, ki6_2, ki6_3, ki6_4, ki6_5, ki6_6, ki6_7, ⟨PySem.W.mg_of X G qc7, ex7, ek7, xhs7, et7⟩, ⟨xhg7, xhk7, xhs7, xhd7, xha7, xn, xt, xhm7⟩, em7, ki7_0, ki7_1, ki7_2, ki7_3, ki7_4, ki7_5, ki7_6, ki7_7, ⟨_, PySem.W.mg_of X G w0⟩, ⟨_, PySem.W.mg_of X G w1⟩, ⟨_, PySem.W.mg_of X G w2⟩, TD⟩
  refine ⟨_, csOf ⟨qS, dC, q0, q1, q2, q3, q4, q5, q6, q7, cc16, cP16, cc17, cP17⟩, spLawT K (csOf ⟨qS, dC, q0, q1, q2, q3, q4, q5, q6, q7, cc16, cP16, cc17, cP17⟩), ?_, ?_, ?_, fun s v => .of_eq rfl, fun H a ns hl _ hH hS => ⟨hH, a, ns, rfl, hS, hl, fun _ => rfl⟩, fun base KB GB hTB => ok_law (base := base) F17 T ⟨hTB (cc16, cP16) (by simp [csOf]), hTB (cc17, cP17) (by simp [csOf])⟩ hw⟩
  · intro p hp
    simp only [csOf, List.mem_cons, List.not_mem_nil, or_false] at hp
    rcases hp with rfl | rfl
    · exact hp16
    · exact hp17
  · intro p hp
    simp only [csOf, List.mem_cons, List.not_mem_nil, or_false] at hp
    rcases hp with rfl | rfl
    · exact nn16
    · exact nn17
  · intro p hp
    simp only [csOf, List.mem_cons, List.not_mem_nil, or_false] at hp
    rcases hp with rfl | rfl
    · exact PySem.W.codeHd_of_K X ch16
    · exact PySem.W.codeHd_of_K X ch17
end
end My

open PySem PySem.W PyProof.Rows in
set_option maxRecDepth 100000 in
set_option maxHeartbeats 0 in
theorem PySem.Challenge.cw_autosaves_k21_documents_step_by_step_holds : PySem.Challenge.rw_autosaves_k21_documents_step_by_step.Holds := by
  w_on; o_law; k_head; (case hw => w_witness2)
  k_fill
  refine LamX.walk_ofTs (l := PySem.Challenge.rw_autosaves_k21_documents_step_by_step) (n := 63) (k := 12) (x := "_law_script") (CX := fun _ => L2.CX0) rfl (by decide) rfl ⟨rfl, by decide, by decide⟩ (fun w h Y => PySem.W.km_in_of Y) ?F (fun _ _ _ _ _ h => h)
  case F =>
    intro w mg fa h Y KX G hmg
    refine' My.all_mk KX G hmg ?a0 ?l0 ?c0 ?k0 ?a1 ?l1 ?c1 ?k1 ?a2 ?l2 ?c2 ?k2 ?a3 ?l3 ?c3 ?k3 ?a4 ?l4 ?c4 ?k4 ?a5 ?l5 ?c5 ?k5 ?a6 ?l6 ?c6 ?k6 ?a7 ?l7 ?c7 ?k7 ?a8 ?l8 ?c8 ?k8 ?a9 ?l9 ?c9 ?k9 ?a10 ?l10 ?c10 ?k10 ?a11 ?l11 ?c11 ?k11 ?a12 ?l12 ?c12 ?k12 ?a13 ?l13 ?c13 ?k13 ?a14 ?l14 ?c14 ?k14 ?a15 ?l15 ?c15 ?k15 ?a16 ?l16 ?c16 ?k16 ?tc16 ?tb16 ?ch16 ?nn16 ?hp16 ?a17 ?l17 ?c17 ?k17 ?tc17 ?tb17 ?ch17 ?nn17 ?hp17 ?z0 ?z1 ?z2 ?z3 ?z4 ?z5 ?z6 ?z7 ?z8 ?z9 ?z10 ?z11 ?qs ?qc0 ?qc1 ?qc2 ?qc3 ?qc4 ?qc5 ?qc6 ?qc7 ?xn ?xt ?ex0 ?ek0 ?et0 ?xhg0 ?xhk0 ?xhs0 ?xhd0 ?xha0 ?xhm0 ?em0 ?ki0_0 ?ki0_1 ?ki0_2 ?ki0_3 ?ki0_4 ?ki0_5 ?ki0_6 ?ki0_7 ?ex2 ?ek2 ?et2 ?xhg2 ?xhk2 ?xhs2 ?xhd2 ?xha2 ?xhm2 ?em2 ?ki2_0 ?ki2_1 ?ki2_2 ?ki2_3 ?ki2_4 ?ki2_5 ?ki2_6 ?ki2_7 ?ex6 ?ek6 ?et6 ?xhg6 ?xhk6 ?xhs6 ?xhd6 ?xha6 ?xhm6 ?em6 ?ki6_0 ?ki6_1 ?ki6_2 ?ki6_3 ?ki6_4 ?ki6_5 ?ki6_6 ?ki6_7 ?ex7 ?ek7 ?et7 ?xhg7 ?xhk7 ?xhs7 ?xhd7 ?xha7 ?xhm7 ?em7 ?ki7_0 ?ki7_1 ?ki7_2 ?ki7_3 ?ki7_4 ?ki7_5 ?ki7_6 ?ki7_7 ?w0 ?w1 ?w2 ?dhC ?dpg ?dhd ?dpo ?dsa ?dmk ?dkc ?dnr ?dns ?dmo ?dmg ?dca ?dmm ?dkk ?dkt ?dnt ?dri ?drg ?dfm ?ma0 ?ml0 ?mc0 ?mk0 ?mi0 ?mf0 ?ma1 ?mr1 ?ml1 ?mc1 ?mk1 ?mf1 ?ma2 ?ml2 ?mc2 ?mk2 ?mi2 ?mf2 ?ma3 ?ml3 ?mc3 ?mk3 ?mi3 ?mf3 ?ma4 ?ml4 ?mc4 ?mk4 ?mi4 ?mf4 ?ma5 ?ml5 ?mc5 ?mk5 ?mi5 ?mf5 ?ma6 ?mg6 ?mt6 ?mr6 ?ml6 ?mc6 ?mk6 ?ma7 ?mg7 ?mt7 ?mr7 ?ml7 ?mc7 ?mk7 ?ma8 ?mg8 ?mt8 ?mr8 ?ml8 ?mc8 ?mk8 ?ma9 ?mg9 ?mt9 ?mr9 ?ml9 ?mc9 ?mk9 ?ma10 ?ml10 ?mc10 ?mk10 ?mi10 ?mf10 ?ma11 ?ml11 ?mc11 ?mk11 ?mi11 ?mf11 ?ma12 ?ml12 ?mc12 ?mk12 ?mi12 ?mf12 ?ma13 ?ml13 ?mc13 ?mk13 ?mi13 ?mf13 My.law_true
    (case a0 => k_is); (case l0 => k_is); (case c0 => k_is); (case k0 => k_is); (case a1 => k_is); (case l1 => k_is); (case c1 => k_is); (case k1 => k_is); (case a2 => k_is); (case l2 => k_is); (case c2 => k_is); (case k2 => k_is); (case a3 => k_is); (case l3 => k_is); (case c3 => k_is); (case k3 => k_is); (case a4 => k_is); (case l4 => k_is); (case c4 => k_is); (case k4 => k_is); (case a5 => k_is); (case l5 => k_is); (case c5 => k_is); (case k5 => k_is); (case a6 => k_is); (case l6 => k_is); (case c6 => k_is); (case k6 => k_is); (case a7 => k_is); (case l7 => k_is); (case c7 => k_is); (case k7 => k_is); (case a8 => k_is); (case l8 => k_is); (case c8 => k_is); (case k8 => k_is); (case a9 => k_is); (case l9 => k_is); (case c9 => k_is); (case k9 => k_is); (case a10 => k_is); (case l10 => k_is); (case c10 => k_is); (case k10 => k_is); (case a11 => k_is); (case l11 => k_is); (case c11 => k_is); (case k11 => k_is); (case a12 => k_is); (case l12 => k_is); (case c12 => k_is); (case k12 => k_is); (case a13 => k_is); (case l13 => k_is); (case c13 => k_is); (case k13 => k_is); (case a14 => k_is); (case l14 => k_is); (case c14 => k_is); (case k14 => k_is); (case a15 => k_is); (case l15 => k_is); (case c15 => k_is); (case k15 => k_is); (case a16 => k_is); (case l16 => k_is); (case c16 => k_is); (case k16 => k_is); (case tc16 => k_is); (case tb16 => exact rfl); (case ch16 => kernel_rfl); (case nn16 => kernel_rfl); (case hp16 => exact Y.2 _ (by simp)); (case a17 => k_is); (case l17 => k_is); (case c17 => k_is); (case k17 => k_is); (case tc17 => k_is); (case tb17 => exact rfl); (case ch17 => kernel_rfl); (case nn17 => kernel_rfl); (case hp17 => exact Y.2 _ (by simp)); (case z0 => k_is); (case z1 => k_is); (case z2 => k_is); (case z3 => k_is); (case z4 => k_is); (case z5 => k_is); (case z6 => k_is); (case z7 => k_is); (case z8 => k_is); (case z9 => k_is); (case z10 => k_is); (case z11 => k_is); (case qs => k_is); (case qc0 => k_is); (case qc1 => k_is); (case qc2 => k_is); (case qc3 => k_is); (case qc4 => k_is); (case qc5 => k_is); (case qc6 => k_is); (case qc7 => k_is); (case xn => k_is); (case xt => k_is); (case ex0 => first | k_exc | k_is | kernel_rfl); (case ek0 => k_is); (case et0 => k_is); (case xhg0 => k_is); (case xhk0 => k_is); (case xhs0 => k_is); (case xhd0 => k_is); (case xha0 => k_is); (case xhm0 => k_is); (case em0 => kts_exm); (case ki0_0 => kit_is); (case ki0_1 => kit_is); (case ki0_2 => kit_is); (case ki0_3 => kit_is); (case ki0_4 => kit_is); (case ki0_5 => kit_is); (case ki0_6 => kit_is); (case ki0_7 => kit_is); (case ex2 => first | k_exc | k_is | kernel_rfl); (case ek2 => k_is); (case et2 => k_is); (case xhg2 => k_is); (case xhk2 => k_is); (case xhs2 => k_is); (case xhd2 => k_is); (case xha2 => k_is); (case xhm2 => k_is); (case em2 => kts_exm); (case ki2_0 => kit_is); (case ki2_1 => kit_is); (case ki2_2 => kit_is); (case ki2_3 => kit_is); (case ki2_4 => kit_is); (case ki2_5 => kit_is); (case ki2_6 => kit_is); (case ki2_7 => kit_is); (case ex6 => first | k_exc | k_is | kernel_rfl); (case ek6 => k_is); (case et6 => k_is); (case xhg6 => k_is); (case xhk6 => k_is); (case xhs6 => k_is); (case xhd6 => k_is); (case xha6 => k_is); (case xhm6 => k_is); (case em6 => kts_exm); (case ki6_0 => kit_is); (case ki6_1 => kit_is); (case ki6_2 => kit_is); (case ki6_3 => kit_is); (case ki6_4 => kit_is); (case ki6_5 => kit_is); (case ki6_6 => kit_is); (case ki6_7 => kit_is); (case ex7 => first | k_exc | k_is | kernel_rfl); (case ek7 => k_is); (case et7 => k_is); (case xhg7 => k_is); (case xhk7 => k_is); (case xhs7 => k_is); (case xhd7 => k_is); (case xha7 => k_is); (case xhm7 => k_is); (case em7 => kts_exm); (case ki7_0 => kit_is); (case ki7_1 => kit_is); (case ki7_2 => kit_is); (case ki7_3 => kit_is); (case ki7_4 => kit_is); (case ki7_5 => kit_is); (case ki7_6 => kit_is); (case ki7_7 => kit_is); (case w0 => k_is); (case w1 => k_is); (case w2 => k_is); (case dhC => k_is); (case dpg => k_is); (case dhd => k_is); (case dpo => k_is); (case dsa => k_is); (case dmk => k_is); (case dkc => k_is); (case dnr => k_is); (case dns => k_is); (case dmo => k_is); (case dmg => k_is); (case dca => k_is); (case dmm => k_is); (case dkk => kit_is); (case dkt => kit_is); (case dnt => k_is); (case dri => k_is); (case drg => k_is); (case dfm => k_is); (case ma0 => k_is); (case ml0 => k_is); (case mc0 => k_is); (case mk0 => k_is); (case mi0 => k_is); (case mf0 => k_is); (case ma1 => k_is); (case mr1 => k_is); (case ml1 => k_is); (case mc1 => k_is); (case mk1 => k_is); (case mf1 => k_is); (case ma2 => k_is); (case ml2 => k_is); (case mc2 => k_is); (case mk2 => k_is); (case mi2 => k_is); (case mf2 => k_is); (case ma3 => k_is); (case ml3 => k_is); (case mc3 => k_is); (case mk3 => k_is); (case mi3 => k_is); (case mf3 => k_is); (case ma4 => k_is); (case ml4 => k_is); (case mc4 => k_is); (case mk4 => k_is); (case mi4 => k_is); (case mf4 => k_is); (case ma5 => k_is); (case ml5 => k_is); (case mc5 => k_is); (case mk5 => k_is); (case mi5 => k_is); (case mf5 => k_is); (case ma6 => k_is); (case mg6 => k_is); (case mt6 => k_is); (case mr6 => k_is); (case ml6 => k_is); (case mc6 => k_is); (case mk6 => k_is); (case ma7 => k_is); (case mg7 => k_is); (case mt7 => k_is); (case mr7 => k_is); (case ml7 => k_is); (case mc7 => k_is); (case mk7 => k_is); (case ma8 => k_is); (case mg8 => k_is); (case mt8 => k_is); (case mr8 => k_is); (case ml8 => k_is); (case mc8 => k_is); (case mk8 => k_is); (case ma9 => k_is); (case mg9 => k_is); (case mt9 => k_is); (case mr9 => k_is); (case ml9 => k_is); (case mc9 => k_is); (case mk9 => k_is); (case ma10 => k_is); (case ml10 => k_is); (case mc10 => k_is); (case mk10 => k_is); (case mi10 => k_is); (case mf10 => k_is); (case ma11 => k_is); (case ml11 => k_is); (case mc11 => k_is); (case mk11 => k_is); (case mi11 => k_is); (case mf11 => k_is); (case ma12 => k_is); (case ml12 => k_is); (case mc12 => k_is); (case mk12 => k_is); (case mi12 => k_is); (case mf12 => k_is); (case ma13 => k_is); (case ml13 => k_is); (case mc13 => k_is); (case mk13 => k_is); (case mi13 => k_is); (case mf13 => k_is)


import PyProof.Rows.All
import Wide.All
import OpenK.AllK
import Wide.FinOn
import HandS.ForMost
import HandS.Exc
import HandS.TryOnly
import HandS.ExcOwn
import HandS.AnyAll
import HandS.Deep
import HandS.TupLe
import HandS.TupAny
import HandS.Conv
import HandS.Flow
import HandS.EndTab
import HandS.HeadWalk
import HandS.Wide
import KE.DataCmp
import KE.SortData
import HandS.TupMul
import HandS.Star
import HandS.IsInst
import HandS.Style
import HandS.SortOrd
import HandS.Gcd
import HandS.HotCalls
import HandS.ExcIs
import HandS.Words
import HandS.WordsExc
import PyProof.GenQ
import PyProof.ConsumeS
import HandS.GenList
import PyProof.CodeObjX
import HandS.More
import HandS.SetFor
import HandS.Rev
import HandS.RevRange
import KE.OsSortAny
import HandS.HeadHook4
import HandS.HeadEnd
import HandS.Head2
import PySem.Challenge.RW_twinroads_k11_whole_known_webs
set_option Elab.async false
set_option linter.all false
set_option maxRecDepth 100000
set_option maxHeartbeats 4000000
namespace EV
open PySem PySem.Spec L2

/-- the tables of code objects -/
structure TabK (K : PySem.W.Frag) (base : Heap) (mg : Str → Option Value) (c P : Addr) : Prop where
  tab : GxR.TabB base mg c P
  kc : K.lookup c ≠ none
def tbOf (K : PySem.W.Frag) (base : Heap) (mg : Str → Option Value) : Addr → Prop := fun P => ∃ c, TabK K base mg c P
abbrev _root_.L2.Cx.tb (X : Cx) : Addr → Prop := tbOf X.K X.base X.mg
/-! ## values by worth -/
inductive W where
  | non | bl (b : Bool) | int (i : Int) | str (x : Str)
  | tup (xs : List W) | fl (xs : List W) | fd (ks : List W) (vs : List W) | fs (xs : List W)
  | ref (l : Nat) | scr (xs : List W) | obj (a : Nat)
  deriving Inhabited
/-- things that change -/
inductive O where
  | lst (xs : List W) | dct (ks : List W) (vs : List W) | set (xs : List W) | ins (c : Str) (fs : List (Str × W))
  deriving Inhabited
abbrev Hd := List O
abbrev Sg := List (Option W)
/-- an outcome -/
inductive R (α : Type) where
  | ok (a : α) (h : Hd) | exc (c : Str) (h : Hd) | bad
def R.bind {α β : Type} (r : R α) (f : α → Hd → R β) : R β := match r with
  | .ok a h => f a h
  | .exc c h => .exc c h
  | .bad => .bad
inductive RS where
  | nx (σ : Sg) (h : Hd) | rt (w : W) (h : Hd) | bk (σ : Sg) (h : Hd) | ct (σ : Sg) (h : Hd) | exc (c : Str) (σ : Sg) (h : Hd) | bad

/-- what is known besides: frozen lists, protected things, tables, the places of what changes -/
structure G where
  F : Addr → Prop
  P : Addr → Prop
  ρ : List Addr

/-- a list by value at a -/
def FlAt (H : Hp) (g : G) (a : Addr) (vs : List V) : Prop := H a = some (.lst vs) ∧ g.F a
/-- the script -/
def ScAt (K : PySem.W.Frag) (H : Hp) (g : G) (a : Addr) (vs : List V) : Prop := FlAt H g a vs ∨
  (∃ o, H a = some (.frz o (.lst vs))) ∨
    ∃ (o : Obj) (its : Array Value) (n : Nat), K.lookup a = some o ∧ o.cls = .type "list" ∧ o.dict = none ∧ o.data = .seq its n ∧ its.size ≤ sizeLine ∧ Vals vs its.toList
theorem ScAt.sq {K : PySem.W.Frag} {H : Hp} {g : G} {a : Addr} {vs : List V} (h : ScAt K H g a vs) : SqL K H a vs := by
  rcases h with h | ⟨o, h⟩ | h
  · exact .inl (.inl h.1)
  · exact .inl (.inr ⟨o, h⟩)
  · exact .inr h
theorem ScAt.mono {K : PySem.W.Frag} {H : Hp} {g g' : G} {a : Addr} {vs : List V} (h : ScAt K H g a vs) (hF : ∀ a, g.F a → g'.F a) : ScAt K H g' a vs := h.imp (fun z => ⟨z.1, hF a z.2⟩) id
/-- keys -/
def kW : Key → W
  | .inl i => .int i
  | .inr x => .str x
def keyOf : W → Option Key
  | .int i => some (.inl i)
  | .str x => some (.inr x)
  | _ => none
def keysOf : List W → Option (List Key)
  | [] => some []
  | w :: ws => match keyOf w, keysOf ws with
    | some k, some ks => some (k :: ks)
    | _, _ => none
def tkeyOf : W → Option (List Key)
  | .tup xs => keysOf xs
  | _ => none
def tkeysOf : List W → Option (List (List Key))
  | [] => some []
  | w :: ws => match tkeyOf w, tkeysOf ws with
    | some k, some ks => some (k :: ks)
    | _, _ => none
/-- a dict of the keys ks and values us -/
def DcO (ks : List W) (us : List V) (o : HO) : Prop :=
  (∃ kk, keysOf ks = some kk ∧ kk.length = us.length ∧ kk.Nodup ∧ o = .dK (kk.zip us)) ∨
    ∃ kk, tkeysOf ks = some kk ∧ kk.length = us.length ∧ kk.Nodup ∧ o = .dT (kk.zip us)

inductive Rels (K : PySem.W.Frag) (tb : Addr → Prop) (H : Hp) (g : G) : List W → List V → Prop where
  | nil : Rels K tb H g [] []
  | non {ws vs} : Rels K tb H g ws vs → Rels K tb H g (.non :: ws) (.non :: vs)
  | bl {b ws vs} : Rels K tb H g ws vs → Rels K tb H g (.bl b :: ws) (.bl b :: vs)
  | int {i ws vs} : Rels K tb H g ws vs → Rels K tb H g (.int i :: ws) (.int i :: vs)
  | str {x ws vs} : Rels K tb H g ws vs → Rels K tb H g (.str x :: ws) (.str x :: vs)
  | tup {a xs us ws vs} : SqT K H a us → Rels K tb H g xs us → Rels K tb H g ws vs → Rels K tb H g (.tup xs :: ws) (.ref a :: vs)
  | fl {a xs us ws vs} : FlAt H g a us → Rels K tb H g xs us → Rels K tb H g ws vs → Rels K tb H g (.fl xs :: ws) (.ref a :: vs)
  | scr {a xs us ws vs} : ScAt K H g a us → Rels K tb H g xs us → Rels K tb H g ws vs → Rels K tb H g (.scr xs :: ws) (.ref a :: vs)
  | fd {a o ks xs us ws vs} : H a = some o → g.F a → DcO ks us o → Rels K tb H g xs us → Rels K tb H g ws vs → Rels K tb H g (.fd ks xs :: ws) (.ref a :: vs)
  | ref {l a ws vs} : g.ρ[l]? = some a → Rels K tb H g ws vs → Rels K tb H g (.ref l :: ws) (.ref a :: vs)
  | obj {a : Addr} {ws vs} : Rels K tb H g ws vs → Rels K tb H g (.obj a :: ws) (.ref a :: vs)
abbrev Rel (K : PySem.W.Frag) (tb : Addr → Prop) (H : Hp) (g : G) (w : W) (v : V) : Prop := Rels K tb H g [w] [v]

/-- a table that can grow -/
abbrev TabG (H : Hp) (P : Addr) : Prop := GxR.TabG H P
/-- what stays -/
structure Ext (H : Hp) (g : G) (H' : Hp) (g' : G) : Prop where
  tups : ∀ b xs, H b = some (.tup xs) → H' b = some (.tup xs)
  frzs : ∀ b o u, H b = some (.frz o u) → H' b = some (.frz o u)
  tabs : ∀ b, TabG H b → TabG H' b
  eP : ∀ a, g.P a → g'.P a
  keepP : ∀ a, g.P a → H' a = H a
  keepF : ∀ a, g.F a → g'.F a ∧ H' a = H a
  pre : g.ρ <+: g'.ρ
/-- .. but for what is guarded -/
structure ExtW (H : Hp) (g : G) (H' : Hp) (g' : G) : Prop where
  tups : ∀ b xs, H b = some (.tup xs) → H' b = some (.tup xs)
  frzs : ∀ b o u, H b = some (.frz o u) → H' b = some (.frz o u)
  keepF : ∀ a, g.F a → g'.F a ∧ H' a = H a
  pre : g.ρ <+: g'.ρ
theorem Ext.w {H H' : Hp} {g g' : G} (x : Ext H g H' g') : ExtW H g H' g' := ⟨x.tups, x.frzs, x.keepF, x.pre⟩
theorem ExtW.trans {H H1 H2 : Hp} {g g1 g2 : G} (a : ExtW H g H1 g1) (b : ExtW H1 g1 H2 g2) : ExtW H g H2 g2 :=
  ⟨fun c xs e => b.tups c xs (a.tups c xs e), fun c o u e => b.frzs c o u (a.frzs c o u e), fun c e => let ⟨h1, h2⟩ := a.keepF c e; let ⟨h3, h4⟩ := b.keepF c h1; ⟨h3, h4.trans h2⟩, a.pre.trans b.pre⟩
theorem Ext.refl (H : Hp) (g : G) : Ext H g H g := ⟨fun _ _ e => e, fun _ _ _ e => e, fun _ e => e, fun _ e => e, fun _ _ => rfl, fun _ e => ⟨e, rfl⟩, List.prefix_refl _⟩
theorem Ext.trans {H H1 H2 : Hp} {g g1 g2 : G} (a : Ext H g H1 g1) (b : Ext H1 g1 H2 g2) : Ext H g H2 g2 where
  tups := fun c xs e => b.tups c xs (a.tups c xs e)
  frzs := fun c o u e => b.frzs c o u (a.frzs c o u e)
  tabs := fun c e => b.tabs c (a.tabs c e)
  eP := fun c h => b.eP c (a.eP c h)
  keepP := fun c e => (b.keepP c (a.eP c e)).trans (a.keepP c e)
  keepF := fun c e => let ⟨h1, h2⟩ := a.keepF c e; let ⟨h3, h4⟩ := b.keepF c h1; ⟨h3, h4.trans h2⟩
  pre := a.pre.trans b.pre

section
variable {K : PySem.W.Frag} {tb : Addr → Prop} {H H' : Hp} {g g' : G}
theorem ExtW.sqT (x : ExtW H g H' g') {a : Addr} {us : List V} (h : SqT K H a us) : SqT K H' a us := by
  rcases h with (h | ⟨o, h⟩) | h
  · exact .inl (.inl (x.tups _ _ h))
  · exact .inl (.inr ⟨o, x.frzs _ _ _ h⟩)
  · exact .inr h
theorem ExtW.flAt (x : ExtW H g H' g') {a : Addr} {us : List V} (h : FlAt H g a us) : FlAt H' g' a us :=
  let ⟨f', e⟩ := x.keepF a h.2
  ⟨e.trans h.1, f'⟩
theorem ExtW.scAt (x : ExtW H g H' g') {a : Addr} {us : List V} (h : ScAt K H g a us) : ScAt K H' g' a us := by
  rcases h with h | ⟨o, h⟩ | h
  · exact .inl (x.flAt h)
  · exact .inr (.inl ⟨o, x.frzs _ _ _ h⟩)
  · exact .inr (.inr h)
theorem pre_get {α : Type} {l l' : List α} (h : l <+: l') {i : Nat} {a : α} (e : l[i]? = some a) : l'[i]? = some a := by
  obtain ⟨r, rfl⟩ := h
  rw [List.getElem?_append_left (List.getElem?_eq_some_iff.mp e).1]
  exact e
theorem ExtW.rels (x : ExtW H g H' g') {ws : List W} {vs : List V} (h : Rels K tb H g ws vs) : Rels K tb H' g' ws vs := by
  induction h with
  | nil => exact .nil
  | non _ ih => exact .non ih
  | bl _ ih => exact .bl ih
  | int _ ih => exact .int ih
  | str _ ih => exact .str ih
  | tup s _ _ i1 i2 => exact .tup (x.sqT s) i1 i2
  | fl s _ _ i1 i2 => exact .fl (x.flAt s) i1 i2
  | scr s _ _ i1 i2 => exact .scr (x.scAt s) i1 i2
  | fd s f d _ _ i1 i2 => exact .fd ((x.keepF _ f).2.trans s) (x.keepF _ f).1 d i1 i2
  | ref e _ ih => exact .ref (pre_get x.pre e) ih
  | obj _ ih => exact .obj ih
theorem Ext.sqT (x : Ext H g H' g') {a : Addr} {us : List V} (h : SqT K H a us) : SqT K H' a us := x.w.sqT h
theorem Ext.flAt (x : Ext H g H' g') {a : Addr} {us : List V} (h : FlAt H g a us) : FlAt H' g' a us := x.w.flAt h
theorem Ext.scAt (x : Ext H g H' g') {a : Addr} {us : List V} (h : ScAt K H g a us) : ScAt K H' g' a us := x.w.scAt h
theorem Ext.rels (x : Ext H g H' g') {ws : List W} {vs : List V} (h : Rels K tb H g ws vs) : Rels K tb H' g' ws vs := x.w.rels h
theorem Rels.cons {w : W} {v : V} {ws : List W} {vs : List V} (h : Rel K tb H g w v) (r : Rels K tb H g ws vs) : Rels K tb H g (w :: ws) (v :: vs) := by
  cases h with
  | non _ => exact .non r
  | bl _ => exact .bl r
  | int _ => exact .int r
  | str _ => exact .str r
  | tup s t _ => exact .tup s t r
  | fl s t _ => exact .fl s t r
  | scr s t _ => exact .scr s t r
  | fd s f d t _ => exact .fd s f d t r
  | ref e _ => exact .ref e r
  | obj _ => exact .obj r
theorem Rels.head {w : W} {v : V} {ws : List W} {vs : List V} (h : Rels K tb H g (w :: ws) (v :: vs)) : Rel K tb H g w v ∧ Rels K tb H g ws vs := by
  cases h with
  | non r => exact ⟨.non .nil, r⟩
  | bl r => exact ⟨.bl .nil, r⟩
  | int r => exact ⟨.int .nil, r⟩
  | str r => exact ⟨.str .nil, r⟩
  | tup s t r => exact ⟨.tup s t .nil, r⟩
  | fl s t r => exact ⟨.fl s t .nil, r⟩
  | scr s t r => exact ⟨.scr s t .nil, r⟩
  | fd s f d t r => exact ⟨.fd s f d t .nil, r⟩
  | ref e r => exact ⟨.ref e .nil, r⟩
  | obj r => exact ⟨.obj .nil, r⟩
theorem Rels.length {ws : List W} {vs : List V} (h : Rels K tb H g ws vs) : ws.length = vs.length := by
  induction h <;> simp_all
theorem Rels.append {ws ws' : List W} {vs vs' : List V} (h : Rels K tb H g ws vs) (h' : Rels K tb H g ws' vs') : Rels K tb H g (ws ++ ws') (vs ++ vs') := by
  induction h with
  | nil => exact h'
  | non _ ih => exact .non ih
  | bl _ ih => exact .bl ih
  | int _ ih => exact .int ih
  | str _ ih => exact .str ih
  | tup s t _ _ i2 => exact .tup s t i2
  | fl s t _ _ i2 => exact .fl s t i2
  | scr s t _ _ i2 => exact .scr s t i2
  | fd s f d t _ _ i2 => exact .fd s f d t i2
  | ref e _ ih => exact .ref e ih
  | obj _ ih => exact .obj ih
theorem Rels.uncons {w : W} {ws : List W} {vs : List V} (h : Rels K tb H g (w :: ws) vs) : ∃ v vr, vs = v :: vr ∧ Rel K tb H g w v ∧ Rels K tb H g ws vr := by
  cases vs with
  | nil => have := h.length; simp at this
  | cons v vr => exact ⟨v, vr, rfl, h.head⟩
theorem Rels.get : ∀ {ws : List W} {vs : List V} {i : Nat} {w : W}, Rels K tb H g ws vs → ws[i]? = some w → ∃ v, vs[i]? = some v ∧ Rel K tb H g w v
  | [], _, _, _, _, e => by simp at e
  | w :: ws, vs, 0, _, h, e => by
    obtain ⟨v, vr, rfl, h1, h2⟩ := h.uncons
    simp at e; subst e
    exact ⟨v, rfl, h1⟩
  | w :: ws, vs, i + 1, x, h, e => by
    obtain ⟨v, vr, rfl, h1, h2⟩ := h.uncons
    obtain ⟨v', e', h3⟩ := Rels.get (i := i) (w := x) h2 (by simpa using e)
    exact ⟨v', by simpa using e', h3⟩
theorem Rels.drop : ∀ {ws : List W} {vs : List V} (n : Nat), Rels K tb H g ws vs → Rels K tb H g (ws.drop n) (vs.drop n)
  | _, _, 0, h => h
  | [], vs, n + 1, h => by cases h; exact .nil
  | w :: ws, vs, n + 1, h => by
    obtain ⟨v, vr, rfl, h1, h2⟩ := h.uncons
    exact Rels.drop n h2
theorem Rels.take : ∀ {ws : List W} {vs : List V} (n : Nat), Rels K tb H g ws vs → Rels K tb H g (ws.take n) (vs.take n)
  | _, _, 0, _ => .nil
  | [], vs, n + 1, h => by cases h; exact .nil
  | w :: ws, vs, n + 1, h => by
    obtain ⟨v, vr, rfl, h1, h2⟩ := h.uncons
    exact .cons h1 (Rels.take n h2)
theorem Rels.set : ∀ {ws : List W} {vs : List V} (n : Nat) {w : W} {v : V}, Rels K tb H g ws vs → Rel K tb H g w v → Rels K tb H g (ws.set n w) (vs.set n v)
  | [], vs, n, w, v, h, _ => by cases h; exact .nil
  | x :: ws, vs, 0, w, v, h, r => by
    obtain ⟨y, vr, rfl, h1, h2⟩ := h.uncons
    exact .cons r h2
  | x :: ws, vs, n + 1, w, v, h, r => by
    obtain ⟨y, vr, rfl, h1, h2⟩ := h.uncons
    exact .cons h1 (Rels.set n h2 r)
end

/-- a thing that changes -/
def ObR (K : PySem.W.Frag) (tb : Addr → Prop) (H : Hp) (g : G) (a : Addr) : O → Prop
  | .lst ws => ∃ vs, H a = some (.lst vs) ∧ Rels K tb H g ws vs
  | .dct ks ws => ∃ o vs, H a = some o ∧ DcO ks vs o ∧ Rels K tb H g ws vs
  | _ => False
/-- the heap is held -/
structure Hr (K : PySem.W.Frag) (tb : Addr → Prop) (H : Hp) (g : G) (hd : Hd) : Prop where
  len : g.ρ.length = hd.length
  nd : g.ρ.Nodup
  nf : ∀ a ∈ g.ρ, ¬ g.F a ∧ ¬ g.P a
  fp : ∀ a, g.F a → ¬ g.P a
  there : ∀ a, g.F a ∨ g.P a → H a ≠ none
  tab : ∀ b, tb b → TabG H b
  tf : ∀ b, tb b → ¬ g.F b ∧ ¬ g.P b
  obj : ∀ (l : Nat) (a : Addr) (o : O), g.ρ[l]? = some a → hd[l]? = some o → ObR K tb H g a o
/-- the names -/
structure Sr (K : PySem.W.Frag) (tb : Addr → Prop) (H : Hp) (g : G) (σd : Sg) (σ : St) : Prop where
  len : σd.length = σ.length
  at_ : ∀ (i : Nat) (w : W), σd[i]? = some (some w) → ∃ v, σ[i]? = some (some v) ∧ Rel K tb H g w v
section
variable {K : PySem.W.Frag} {tb : Addr → Prop} {H H' : Hp} {g g' : G}
theorem Sr.ext {σd : Sg} {σ : St} (s : Sr K tb H g σd σ) (x : Ext H g H' g') : Sr K tb H' g' σd σ :=
  ⟨s.len, fun i w e => let ⟨v, e', r⟩ := s.at_ i w e; ⟨v, e', x.rels r⟩⟩
theorem Sr.set {σd : Sg} {σ : St} (s : Sr K tb H g σd σ) (i : Nat) {w : W} {v : V} (r : Rel K tb H g w v) : Sr K tb H g (σd.set i (some w)) (σ.set i (some v)) := by
  refine ⟨by simp [s.len], fun j x e => ?_⟩
  by_cases h : i = j
  · subst h
    by_cases hl : i < σd.length
    · rw [List.getElem?_set_self hl] at e
      cases e
      exact ⟨v, by rw [List.getElem?_set_self (by rw [← s.len]; exact hl)], r⟩
    · rw [List.getElem?_eq_none (by simpa using hl)] at e; cases e
  · rw [List.getElem?_set_ne h] at e
    obtain ⟨u, e', r'⟩ := s.at_ j x e
    exact ⟨u, by rw [List.getElem?_set_ne h]; exact e', r'⟩
theorem ObR.ext {a : Addr} {o : O} (h : ObR K tb H g a o) (x : Ext H g H' g') (e : H' a = H a) : ObR K tb H' g' a o := by
  cases o with
  | lst ws => obtain ⟨vs, h1, h2⟩ := h; exact ⟨vs, e.trans h1, x.rels h2⟩
  | dct ks ws => obtain ⟨o, vs, h1, h2, h3⟩ := h; exact ⟨o, vs, e.trans h1, h2, x.rels h3⟩
  | set _ => exact h
  | ins _ _ => exact h
end
end EV

set_option Elab.async false
set_option linter.all false
set_option maxRecDepth 100000
set_option maxHeartbeats 4000000
namespace EV
open PySem PySem.Spec L2

/-! ## judgements -/
def excV (mg : Str → Option Value) (c : Str) : Value := (mg c).getD .none
/-- the outcome is no fault, and what it raises is wished for -/
def XOk {α : Type} (X : Cx) (Wx : WX) (σ : St) (H : Hp) (g : G) : R α → Prop
  | .ok _ _ => True
  | .exc c hd' => ∀ H' g', Ext H g H' g' → Hr X.K X.tb H' g' hd' → Wx (excV X.mg c) none σ H'
  | .bad => False
def OkQ (X : Cx) (H : Hp) (g : G) (r : R W) (Q : VK) : Prop :=
  ∀ w hd', r = .ok w hd' → ∀ v H' g', Ext H g H' g' → Hr X.K X.tb H' g' hd' → Rel X.K X.tb H' g' w v → Q v H'
def tE (X : Cx) (Wx : WX) (m : Sg → Hd → R W) : TE := fun σ H Q => ∃ σd hd g, Hr X.K X.tb H g hd ∧ Sr X.K X.tb H g σd σ ∧ XOk X Wx σ H g (m σd hd) ∧ OkQ X H g (m σd hd) Q
def tT (X : Cx) (Wx : WX) (m : Sg → Hd → R Bool) : TT := fun σ H Q => ∃ σd hd g, Hr X.K X.tb H g hd ∧ Sr X.K X.tb H g σd σ ∧ XOk X Wx σ H g (m σd hd) ∧
  ∀ b hd', m σd hd = .ok b hd' → ∀ H' g', Ext H g H' g' → Hr X.K X.tb H' g' hd' → Q b H'
def tA (X : Cx) (Wx : WX) (m : Sg → Hd → R (List W)) : TA := fun σ H Q => ∃ σd hd g, Hr X.K X.tb H g hd ∧ Sr X.K X.tb H g σd σ ∧ XOk X Wx σ H g (m σd hd) ∧
  ∀ ws hd', m σd hd = .ok ws hd' → ∀ vs H' g', Ext H g H' g' → Hr X.K X.tb H' g' hd' → Rels X.K X.tb H' g' ws vs → Q vs H'
/-- an expression, a test, arguments -/
abbrev SE (X : Cx) (Wx : WX) (e : Expr) (m : Sg → Hd → R W) : Prop := PE X e (tE X Wx m)
abbrev ST (X : Cx) (Wx : WX) (e : Expr) (m : Sg → Hd → R Bool) : Prop := PT X e (tT X Wx m)
abbrev SA (X : Cx) (Wx : WX) (es : List Expr) (m : Sg → Hd → R (List W)) : Prop := PA X es (tA X Wx m)

/-- a value has come -/
def OkE (X : Cx) (pins : List (Addr × Obj)) (σ : St) (H : Hp) (g : G) (r : R W) (u : Value) (s' : Shared) : Prop :=
  ∃ w hd' v H' g', r = .ok w hd' ∧ Inv X pins σ H' s' ∧ RelV v u ∧ Ext H g H' g' ∧ Hr X.K X.tb H' g' hd' ∧ Rel X.K X.tb H' g' w v
def OkT (X : Cx) (pins : List (Addr × Obj)) (σ : St) (H : Hp) (g : G) (r : R Bool) (b : Bool) (s' : Shared) : Prop :=
  ∃ hd' H' g', r = .ok b hd' ∧ Inv X pins σ H' s' ∧ Ext H g H' g' ∧ Hr X.K X.tb H' g' hd'
def OkA (X : Cx) (pins : List (Addr × Obj)) (σ : St) (H : Hp) (g : G) (r : R (List W)) (us : List Value) (s' : Shared) : Prop :=
  ∃ ws hd' vs H' g', r = .ok ws hd' ∧ Inv X pins σ H' s' ∧ Vals vs us ∧ Ext H g H' g' ∧ Hr X.K X.tb H' g' hd' ∧ Rels X.K X.tb H' g' ws vs
section
variable {X : Cx} {Wx : WX} {e : Expr} {pins : List (Addr × Obj)} {s : Shared} {σ : St} {H H' : Hp} {g g' : G} {σd : Sg} {hd hd' : Hd}

theorem XOk.ext {α : Type} {r : R α} (h : XOk X Wx σ H g r) (x : Ext H g H' g') : XOk X Wx σ H' g' r := by
  cases r with
  | ok _ _ => trivial
  | exc c hd' => exact fun H2 g2 x2 k => h H2 g2 (x.trans x2) k
  | bad => exact h
theorem XOk.bind1 {α β : Type} {r : R α} {f : α → Hd → R β} (h : XOk X Wx σ H g (r.bind f)) : XOk X Wx σ H g r := by
  cases r with
  | ok _ _ => trivial
  | exc c hd' => exact h
  | bad => exact h
theorem XOk.bind2 {α β : Type} {r : R α} {f : α → Hd → R β} {a : α} {h' : Hd} (h : XOk X Wx σ H g (r.bind f)) (e : r = .ok a h') (x : Ext H g H' g') : XOk X Wx σ H' g' (f a h') := by
  subst e
  exact XOk.ext h x
theorem SE.go {m : Sg → Hd → R W} (h : SE X Wx e m) (I : Inv X pins σ H s) (hr : Hr X.K X.tb H g hd) (sr : Sr X.K X.tb H g σd σ) (hx : XOk X Wx σ H g (m σd hd)) :
    wpAny (model X.prog X.w) X.A (eval e X.env) (OkE X pins σ H g (m σd hd)) X.xe s :=
  thn (h.run pins s σ H (fun v H' => ∃ w hd' g', m σd hd = .ok w hd' ∧ Ext H g H' g' ∧ Hr X.K X.tb H' g' hd' ∧ Rel X.K X.tb H' g' w v) I ⟨σd, hd, g, hr, sr, hx, fun w hd' e v H' g' x k r => ⟨w, hd', g', e, x, k, r⟩⟩)
    fun u s' ⟨v, H', I', rv, w, hd', g', e, x, k, r⟩ => ⟨w, hd', v, H', g', e, I', rv, x, k, r⟩
theorem ST.go {m : Sg → Hd → R Bool} (h : ST X Wx e m) (I : Inv X pins σ H s) (hr : Hr X.K X.tb H g hd) (sr : Sr X.K X.tb H g σd σ) (hx : XOk X Wx σ H g (m σd hd)) :
    wpAny (model X.prog X.w) X.A (isTrue e X.env (eval e X.env)) (OkT X pins σ H g (m σd hd)) X.xe s :=
  thn (h.run pins s σ H (fun b H' => ∃ hd' g', m σd hd = .ok b hd' ∧ Ext H g H' g' ∧ Hr X.K X.tb H' g' hd') I ⟨σd, hd, g, hr, sr, hx, fun b hd' e H' g' x k => ⟨hd', g', e, x, k⟩⟩)
    fun b s' ⟨H', I', hd', g', e, x, k⟩ => ⟨hd', H', g', e, I', x, k⟩
theorem SA.go {es : List Expr} {m : Sg → Hd → R (List W)} (h : SA X Wx es m) (pos : Pos) (I : Inv X pins σ H s) (hr : Hr X.K X.tb H g hd) (sr : Sr X.K X.tb H g σd σ) (hx : XOk X Wx σ H g (m σd hd)) :
    wpAny (model X.prog X.w) X.A (spliced (backTo pos (starEach es X.env))) (OkA X pins σ H g (m σd hd)) X.xe s :=
  thn (h.run pos pins s σ H (fun vs H' => ∃ ws hd' g', m σd hd = .ok ws hd' ∧ Ext H g H' g' ∧ Hr X.K X.tb H' g' hd' ∧ Rels X.K X.tb H' g' ws vs) I ⟨σd, hd, g, hr, sr, hx, fun w hd' e v H' g' x k r => ⟨w, hd', g', e, x, k, r⟩⟩)
    fun u s' ⟨v, H', I', rv, w, hd', g', e, x, k, r⟩ => ⟨w, hd', v, H', g', e, I', rv, x, k, r⟩
/-- from the go form -/
theorem SE.mk {m : Sg → Hd → R W} (h : ∀ (pins : List (Addr × Obj)) (s : Shared) (σ : St) (H : Hp) (σd : Sg) (hd : Hd) (g : G), Inv X pins σ H s → Hr X.K X.tb H g hd → Sr X.K X.tb H g σd σ → XOk X Wx σ H g (m σd hd) →
    wpAny (model X.prog X.w) X.A (eval e X.env) (OkE X pins σ H g (m σd hd)) X.xe s) : SE X Wx e m :=
  ⟨fun pins s σ H Q I ⟨σd, hd, g, hr, sr, hx, q⟩ => thn (h pins s σ H σd hd g I hr sr hx) fun u s' ⟨w, hd', v, H', g', e, I', rv, x, k, r⟩ => ⟨v, H', I', rv, q w hd' e v H' g' x k r⟩⟩
theorem ST.mk {m : Sg → Hd → R Bool} (h : ∀ (pins : List (Addr × Obj)) (s : Shared) (σ : St) (H : Hp) (σd : Sg) (hd : Hd) (g : G), Inv X pins σ H s → Hr X.K X.tb H g hd → Sr X.K X.tb H g σd σ → XOk X Wx σ H g (m σd hd) →
    wpAny (model X.prog X.w) X.A (isTrue e X.env (eval e X.env)) (OkT X pins σ H g (m σd hd)) X.xe s) : ST X Wx e m :=
  ⟨fun pins s σ H Q I ⟨σd, hd, g, hr, sr, hx, q⟩ => thn (h pins s σ H σd hd g I hr sr hx) fun b s' ⟨hd', H', g', e, I', x, k⟩ => ⟨H', I', q b hd' e H' g' x k⟩⟩
theorem SA.mk {es : List Expr} {m : Sg → Hd → R (List W)} (h : ∀ (pos : Pos) (pins : List (Addr × Obj)) (s : Shared) (σ : St) (H : Hp) (σd : Sg) (hd : Hd) (g : G), Inv X pins σ H s → Hr X.K X.tb H g hd → Sr X.K X.tb H g σd σ → XOk X Wx σ H g (m σd hd) →
    wpAny (model X.prog X.w) X.A (spliced (backTo pos (starEach es X.env))) (OkA X pins σ H g (m σd hd)) X.xe s) : SA X Wx es m :=
  ⟨fun pos pins s σ H Q I ⟨σd, hd, g, hr, sr, hx, q⟩ => thn (h pos pins s σ H σd hd g I hr sr hx) fun u s' ⟨w, hd', v, H', g', e, I', rv, x, k, r⟩ => ⟨v, H', I', rv, q w hd' e v H' g' x k r⟩⟩
theorem OkE.ext {r : R W} {u : Value} {s' : Shared} (h : OkE X pins σ H' g' r u s') (x : Ext H g H' g') : OkE X pins σ H g r u s' :=
  let ⟨w, hd', v, H2, g2, e, I, rv, x2, k, rr⟩ := h
  ⟨w, hd', v, H2, g2, e, I, rv, x.trans x2, k, rr⟩
end

/-! ## expressions -/
def mVar (i : Nat) : Sg → Hd → R W := fun σ h => match σ[i]? with
  | some (some w) => .ok w h
  | _ => .bad
def mC (w : W) : Sg → Hd → R W := fun _ h => .ok w h
section
variable {X : Cx} {Wx : WX} {e a b c : Expr} {pos : Pos}
theorem s_var {i : Nat} {x : Str} (hN : X.N[i]? = some x) (hv : Vis X.env.scope x) (hdb : (x == ("__debug__" : Str)) = false := by decide) (hcd : (x == ("__classdict__" : Str)) = false := by decide) : SE X Wx (.Name x pos) (mVar i) := by
  refine ⟨fun pins s σ H Q I h => ?_⟩
  obtain ⟨σd, hd, g, hr, sr, hx, q⟩ := h
  refine (pe_var hN hv hdb hcd).run pins s σ H Q I ?_
  unfold mVar at hx q
  cases e : σd[i]? with
  | none => rw [e] at hx; exact hx.elim
  | some o =>
    cases o with
    | none => rw [e] at hx; exact hx.elim
    | some w =>
      rw [e] at q
      obtain ⟨v, ev, r⟩ := sr.at_ i w e
      exact ⟨v, ev, q w hd rfl v H g (.refl _ _) hr r⟩
theorem s_c {w : W} {v : V} (h : PE X e (tC v)) (hr : ∀ H g, Rel X.K X.tb H g w v) : SE X Wx e (mC w) := by
  refine ⟨fun pins s σ H Q I hq => ?_⟩
  obtain ⟨σd, hd, g, k, sr, hx, q⟩ := hq
  exact h.run pins s σ H Q I (q w hd rfl v H g (.refl _ _) k (hr H g))
theorem s_int {i : Int} {j : Nat} : SE X Wx (.Constant (.int i) j pos) (mC (.int i)) := s_c pe_int fun _ _ => .int .nil
theorem s_bl {i : Bool} {j : Nat} : SE X Wx (.Constant (.bool i) j pos) (mC (.bl i)) := s_c pe_bl fun _ _ => .bl .nil
theorem s_non {j : Nat} : SE X Wx (.Constant .none j pos) (mC .non) := s_c pe_non fun _ _ => .non .nil
theorem s_str {x : Str} {j : Nat} : SE X Wx (.Constant (.str x) j pos) (mC (.str x)) := s_c pe_str fun _ _ => .str .nil
/-- a constant of the module: an int, a text -/
theorem s_glI {x : Str} {i : Int} {t : Tok} (hg : Gl X x) (hm : X.mg x = some (.int i t)) (hd : (x == ("__debug__" : Str)) = false := by decide) : SE X Wx (.Name x pos) (mC (.int i)) := s_c (v := .int i) (pe_glob hg hm ⟨t, rfl⟩ hd) fun _ _ => .int .nil
theorem s_glS {x : Str} {i : Str} {t : Tok} (hg : Gl X x) (hm : X.mg x = some (.str i t)) (hd : (x == ("__debug__" : Str)) = false := by decide) : SE X Wx (.Name x pos) (mC (.str i)) := s_c (v := .str i) (pe_glob hg hm ⟨t, rfl⟩ hd) fun _ _ => .str .nil

/-- an operation on two values -/
abbrev Op2 := W → W → Hd → R W
def OpS (X : Cx) (f : Value → Value → Sem Value) (op : Op2) : Prop :=
  ∀ (Wx : WX) (pins : List (Addr × Obj)) (s : Shared) (σ : St) (H : Hp) (g : G) (hd : Hd) (x y : V) (v u : Value) (w1 w2 : W), Inv X pins σ H s → Hr X.K X.tb H g hd → RelV x v → RelV y u → Rel X.K X.tb H g w1 x → Rel X.K X.tb H g w2 y →
    XOk X Wx σ H g (op w1 w2 hd) → wpAny (model X.prog X.w) X.A (f v u) (OkE X pins σ H g (op w1 w2 hd)) X.xe s
def mBin (op : Op2) (ma mb : Sg → Hd → R W) : Sg → Hd → R W := fun σ h => (ma σ h).bind fun x h1 => (mb σ h1).bind fun y h2 => op x y h2
theorem go2 {ma mb : Sg → Hd → R W} (ha : SE X Wx a ma) (hb : SE X Wx b mb) {f : Value → Value → Sem Value} {op : Op2} (ho : OpS X f op) {pins : List (Addr × Obj)} {s : Shared} {σ : St} {H : Hp} {σd : Sg} {hd : Hd} {g : G}
    (I : Inv X pins σ H s) (hr : Hr X.K X.tb H g hd) (sr : Sr X.K X.tb H g σd σ) (hx : XOk X Wx σ H g (mBin op ma mb σd hd)) :
    wpAny (model X.prog X.w) X.A (eval a X.env) (fun v s₁ => wpAny (model X.prog X.w) X.A (eval b X.env) (fun u s₂ => wpAny (model X.prog X.w) X.A (f v u) (OkE X pins σ H g (mBin op ma mb σd hd)) X.xe s₂) X.xe s₁) X.xe s := by
  unfold mBin at hx ⊢
  refine thn (ha.go I hr sr hx.bind1) fun v s1 ⟨w1, h1, x, H1, g1, e1, I1, rv1, x1, k1, r1⟩ => ?_
  have hx1 := XOk.bind2 hx e1 x1
  refine thn (hb.go I1 k1 (sr.ext x1) hx1.bind1) fun u s2 ⟨w2, h2, y, H2, g2, e2, I2, rv2, x2, k2, r2⟩ => ?_
  have hx2 := XOk.bind2 hx1 e2 x2
  rw [e1]
  show wpAny _ _ _ (OkE X pins σ H g ((mb σd h1).bind _)) _ _
  rw [e2]
  exact thn (ho Wx pins s2 σ H2 g2 h2 x y v u w1 w2 I2 k2 rv1 rv2 (x2.rels r1) r2 hx2) fun u s3 q => q.ext (x1.trans x2)
theorem s_op {op : Operator} {o : Op2} {ma mb : Sg → Hd → R W} (ho : OpS X (binaryOp op) o) (ha : SE X Wx a ma) (hb : SE X Wx b mb) : SE X Wx (.BinOp a op b pos) (mBin o ma mb) :=
  SE.mk fun pins s σ H σd hd g I hr sr hx => wpAny_BinOp (go2 ha hb ho I hr sr hx)
theorem s_cmp {op : CmpOp} {o : Op2} {ma mb : Sg → Hd → R W} (ho : OpS X (compareOp op) o) (ha : SE X Wx a ma) (hb : SE X Wx b mb) (hm : behindInMarks op b = false) : SE X Wx (.Compare a [op] [b] pos) (mBin o ma mb) :=
  SE.mk fun pins s σ H σd hd g I hr sr hx => wpAny_Compare1 (go2 ha hb ho I hr sr hx) hm
/-- the value is a truth value -/
def asB : W → Hd → R Bool := fun w h => match w with
  | .bl b => .ok b h
  | _ => .bad
def mTest (m : Sg → Hd → R W) : Sg → Hd → R Bool := fun σ h => (m σ h).bind asB
theorem t_cmp {op : CmpOp} {o : Op2} {ma mb : Sg → Hd → R W} (ho : OpS X (compareOp op) o) (ha : SE X Wx a ma) (hb : SE X Wx b mb) (hm : behindInMarks op b = false) : ST X Wx (.Compare a [op] [b] pos) (mTest (mBin o ma mb)) := by
  refine ST.mk fun pins s σ H σd hd g I hr sr hx => ?_
  refine wpAny_isTrue_Compare1 (thn (go2 ha hb ho I hr sr hx.bind1) fun v s1 h1 => thn h1 fun u s2 h2 => thn h2 fun z s3 h3 => ?_) hm
  obtain ⟨w, hd', v', H', g', e, I', rv, x, k, r⟩ := h3
  have hx2 := XOk.bind2 hx e x
  have e' : mTest (mBin o ma mb) σd hd = asB w hd' := by unfold mTest; rw [e]; rfl
  cases w <;> first
    | exact hx2.elim
    | skip
  cases r
  cases rv
  exact wpAny_truthy_bool ⟨hd', H', g', e', I', x, k⟩
end
end EV

set_option Elab.async false
set_option linter.all false
set_option maxRecDepth 100000
set_option maxHeartbeats 4000000
namespace EV
open PySem PySem.Spec L2

/-! ## new things -/
section
variable {K : PySem.W.Frag} {tb : Addr → Prop} {H H' : Hp} {g g' : G} {hd : Hd} {p : Addr} {o : HO}
theorem ObR.tracked {a : Addr} {o : O} (h : ObR K tb H g a o) : ∃ u, H a = some u := by
  cases o with
  | lst ws => obtain ⟨vs, h1, _⟩ := h; exact ⟨_, h1⟩
  | dct ks ws => obtain ⟨o, vs, h1, _⟩ := h; exact ⟨_, h1⟩
  | set _ => exact h.elim
  | ins _ _ => exact h.elim
theorem Hr.at_ (k : Hr K tb H g hd) {a : Addr} (h : a ∈ g.ρ) : ∃ (l : Nat) (o : O), g.ρ[l]? = some a ∧ hd[l]? = some o ∧ ObR K tb H g a o := by
  obtain ⟨l, hl, e⟩ := List.getElem_of_mem h
  have e' : g.ρ[l]? = some a := by rw [List.getElem?_eq_getElem hl, e]
  have hl' : l < hd.length := by rw [← k.len]; exact hl
  exact ⟨l, hd[l], e', List.getElem?_eq_getElem hl', k.obj l a _ e' (List.getElem?_eq_getElem hl')⟩
theorem Hr.tracked (k : Hr K tb H g hd) {a : Addr} (h : a ∈ g.ρ) : H a ≠ none := by
  obtain ⟨l, o, _, _, r⟩ := k.at_ h
  obtain ⟨u, e⟩ := r.tracked
  rw [e]; simp
theorem tabG_ne {a : Addr} (h : TabG H a) (hp : H p = none) : a ≠ p := by
  obtain ⟨ps, e, _⟩ := h
  rintro rfl
  rw [hp] at e; cases e
theorem Ext.new (k : Hr K tb H g hd) (hp : H p = none) : Ext H g (upd H p o) g where
  tups := fun b xs e => by rw [upd_ne (ne_of_none e hp)]; exact e
  frzs := fun b o u e => by rw [upd_ne (ne_of_none e hp)]; exact e
  tabs := fun b e => by
    obtain ⟨ps, e, t⟩ := e
    exact ⟨ps, by rw [upd_ne (ne_of_none e hp)]; exact e, t⟩
  eP := fun _ h => h
  keepP := fun a h => upd_ne fun z => k.there a (.inr h) (by rw [z]; exact hp)
  keepF := fun a h => ⟨h, upd_ne fun z => k.there a (.inl h) (by rw [z]; exact hp)⟩
  pre := List.prefix_refl _
theorem Hr.new (k : Hr K tb H g hd) (hp : H p = none) : Hr K tb (upd H p o) g hd := by
  have x : Ext H g (upd H p o) g := Ext.new k hp
  refine ⟨k.len, k.nd, k.nf, k.fp, fun a h => ?_, fun b h => x.tabs b (k.tab b h), k.tf, fun l a o' h1 h2 => ?_⟩
  · rw [upd_ne fun z => k.there a h (by rw [z]; exact hp)]; exact k.there a h
  · exact (k.obj l a o' h1 h2).ext x (upd_ne fun z => k.tracked (List.mem_of_getElem? h1) (by rw [z]; exact hp))
/-- .. frozen -/
abbrev G.frz (g : G) (p : Addr) : G := { g with F := fun a => g.F a ∨ a = p }
theorem Ext.newF (k : Hr K tb H g hd) (hp : H p = none) : Ext H g (upd H p o) (g.frz p) :=
  let x : Ext H g (upd H p o) g := Ext.new k hp
  ⟨x.tups, x.frzs, x.tabs, x.eP, x.keepP, fun a h => ⟨.inl h, (x.keepF a h).2⟩, List.prefix_refl _⟩
theorem Hr.newF (k : Hr K tb H g hd) (hp : H p = none) : Hr K tb (upd H p o) (g.frz p) hd := by
  have x : Ext H g (upd H p o) (g.frz p) := Ext.newF k hp
  refine ⟨k.len, k.nd, fun a h => ⟨fun z => ?_, (k.nf a h).2⟩, fun a h z => ?_, fun a h => ?_, fun b h => x.tabs b (k.tab b h), fun b h => ⟨fun z => z.elim (k.tf b h).1 fun z => tabG_ne (k.tab b h) hp z, (k.tf b h).2⟩, fun l a o' h1 h2 => ?_⟩
  · rcases z with z | z
    · exact (k.nf a h).1 z
    · exact k.tracked h (by rw [z]; exact hp)
  · rcases h with h | h
    · exact k.fp a h z
    · exact k.there a (.inr z) (by rw [h]; exact hp)
  · by_cases e : a = p
    · rw [e, upd_same]; simp
    · rw [upd_ne e]
      refine k.there a ?_
      rcases h with (h | h) | h
      · exact .inl h
      · exact absurd h e
      · exact .inr h
  · exact (k.obj l a o' h1 h2).ext x (upd_ne fun z => k.tracked (List.mem_of_getElem? h1) (by rw [z]; exact hp))
/-- .. that may change -/
abbrev G.app (g : G) (p : Addr) : G := { g with ρ := g.ρ ++ [p] }
theorem Ext.newR (k : Hr K tb H g hd) (hp : H p = none) : Ext H g (upd H p o) (g.app p) :=
  let x : Ext H g (upd H p o) g := Ext.new k hp
  ⟨x.tups, x.frzs, x.tabs, x.eP, x.keepP, x.keepF, List.prefix_append _ _⟩
theorem Hr.newR (k : Hr K tb H g hd) (hp : H p = none) {ob : O} (hn : ObR K tb (upd H p o) (g.app p) p ob) : Hr K tb (upd H p o) (g.app p) (hd ++ [ob]) := by
  have x : Ext H g (upd H p o) (g.app p) := Ext.newR k hp
  refine ⟨by simp [k.len], ?_, fun a h => ?_, k.fp, fun a h => ?_, fun b h => x.tabs b (k.tab b h), k.tf, fun l a o' h1 h2 => ?_⟩
  · refine List.nodup_append.mpr ⟨k.nd, by simp, fun a ha b hb z => ?_⟩
    have e : b = p := by simpa using hb
    exact k.tracked ha (by rw [z, e]; exact hp)
  · rcases List.mem_append.mp h with h | h
    · exact k.nf a h
    · have e : a = p := by simpa using h
      subst e
      exact ⟨fun z => k.there a (.inl z) hp, fun z => k.there a (.inr z) hp⟩
  · rw [upd_ne fun z => k.there a h (by rw [z]; exact hp)]; exact k.there a h
  · by_cases hl : l < hd.length
    · rw [List.getElem?_append_left (by rw [k.len]; exact hl)] at h1
      rw [List.getElem?_append_left hl] at h2
      exact (k.obj l a o' h1 h2).ext x (upd_ne fun z => k.tracked (List.mem_of_getElem? h1) (by rw [z]; exact hp))
    · rw [List.getElem?_append_right (by omega)] at h2
      rw [List.getElem?_append_right (by rw [k.len]; omega), k.len] at h1
      have e0 : l - hd.length = 0 := by
        rcases Nat.eq_zero_or_pos (l - hd.length) with z | z
        · exact z
        · rw [List.getElem?_eq_none (by simp; omega)] at h2; cases h2
      rw [e0] at h1 h2
      simp at h1 h2
      subst h1 h2
      exact hn
/-- a change -/
theorem Hr.write (k : Hr K tb H g hd) {l : Nat} {a : Addr} (hl : g.ρ[l]? = some a) (hm : ∀ xs, H a ≠ some (.tup xs)) (hz : ∀ o u, H a ≠ some (.frz o u)) (ht : ∀ ps, H a ≠ some (.tbl ps)) {ob : O}
    (hn : ObR K tb (upd H a o) g a ob) : Ext H g (upd H a o) g ∧ Hr K tb (upd H a o) g (hd.set l ob) := by
  have ha := k.nf a (List.mem_of_getElem? hl)
  have x : Ext H g (upd H a o) g := ⟨fun b xs e => by rw [upd_ne fun z => hm xs (by rw [← z]; exact e)]; exact e, fun b o u e => by rw [upd_ne fun z => hz o u (by rw [← z]; exact e)]; exact e,
    fun b ⟨ps, e, t⟩ => ⟨ps, by rw [upd_ne fun z => ht ps (by rw [← z]; exact e)]; exact e, t⟩, fun _ h => h, fun b h => upd_ne fun z => ha.2 (by rw [← z]; exact h), fun b h => ⟨h, upd_ne fun z => ha.1 (by rw [← z]; exact h)⟩, List.prefix_refl _⟩
  refine ⟨x, by simp [k.len], k.nd, k.nf, k.fp, fun b h => ?_, fun b h => x.tabs b (k.tab b h), k.tf, fun j b o' h1 h2 => ?_⟩
  · by_cases e : b = a
    · rw [e, upd_same]; simp
    · rw [upd_ne e]; exact k.there b h
  · by_cases e : j = l
    · subst e
      rw [hl] at h1; cases h1
      have hj : j < hd.length := by rw [← k.len]; exact (List.getElem?_eq_some_iff.mp hl).1
      rw [List.getElem?_set_self hj] at h2
      cases h2
      exact hn
    · rw [List.getElem?_set_ne (Ne.symm e)] at h2
      have hne : b ≠ a := fun z => e ((List.getElem?_inj (List.getElem?_eq_some_iff.mp h1).1 k.nd).mp (by rw [h1, hl, z]))
      exact (k.obj j b o' h1 h2).ext x (upd_ne hne)
end

/-! ## what stands behind a value -/
/-- a list of our own -/
def lstM (h : Hd) : W → Option (List W)
  | .fl xs => some xs
  | .ref l => match h[l]? with
    | some (.lst xs) => some xs
    | _ => none
  | _ => none
/-- a list -/
def lstOf (h : Hd) : W → Option (List W)
  | .scr xs => some xs
  | w => lstM h w
/-- list or tuple -/
def seqOf (h : Hd) : W → Option (List W)
  | .tup xs => some xs
  | w => lstOf h w
section
variable {K : PySem.W.Frag} {tb : Addr → Prop} {H H' : Hp} {g g' : G} {hd : Hd}
theorem lstM_of (k : Hr K tb H g hd) {w : W} {v : V} {xs : List W} (r : Rel K tb H g w v) (e : lstM hd w = some xs) : ∃ a us, v = .ref a ∧ H a = some (.lst us) ∧ Rels K tb H g xs us := by
  cases w with
  | fl ys =>
    cases e
    cases r with
    | fl s t _ => exact ⟨_, _, rfl, s.1, t⟩
  | ref l =>
    cases r with
    | ref hl _ =>
      unfold lstM at e
      dsimp only at e
      split at e
      · rename_i ys q
        cases e
        obtain ⟨vs, h1, h2⟩ := k.obj _ _ _ hl q
        exact ⟨_, vs, rfl, h1, h2⟩
      · cases e
  | _ => cases e
theorem lst_of (k : Hr K tb H g hd) {w : W} {v : V} {xs : List W} (r : Rel K tb H g w v) (e : lstOf hd w = some xs) : ∃ a us, v = .ref a ∧ SqL K H a us ∧ Rels K tb H g xs us := by
  cases w with
  | scr ys =>
    cases e
    cases r with
    | scr s t _ => exact ⟨_, _, rfl, s.sq, t⟩
  | _ =>
    first
      | (obtain ⟨a, us, e1, s, t⟩ := lstM_of k r e; exact ⟨a, us, e1, SqL.of s, t⟩)
      | cases e
theorem seq_of (k : Hr K tb H g hd) {w : W} {v : V} {xs : List W} (r : Rel K tb H g w v) (e : seqOf hd w = some xs) : ∃ a us, v = .ref a ∧ (SqL K H a us ∨ SqT K H a us) ∧ Rels K tb H g xs us := by
  cases w with
  | tup ys =>
    cases e
    cases r with
    | tup s t _ => exact ⟨_, _, rfl, .inr s, t⟩
  | _ =>
    first
      | (obtain ⟨a, us, e1, s, t⟩ := lst_of k r e; exact ⟨a, us, e1, .inl s, t⟩)
      | cases e
theorem Rels.ints {ns : List Int} {us : List V} (h : Rels K tb H g (ns.map W.int) us) : us = ns.map V.int := by
  induction ns generalizing us with
  | nil => cases h; rfl
  | cons n ns ih =>
    cases h with
    | int t => rw [ih t]; rfl
theorem rels_ints : ∀ (ns : List Int), Rels K tb H g (ns.map W.int) (ns.map V.int)
  | [] => .nil
  | _ :: ns => .int (rels_ints ns)
end

/-! ## data: for == and `in` -/
def mapO {α β : Type} (f : α → Option β) : List α → Option (List β)
  | [] => some []
  | x :: xs => match f x, mapO f xs with
    | some y, some ys => some (y :: ys)
    | _, _ => none
def toD (h : Hd) : Nat → W → Option PyData
  | 0, _ => none
  | n + 1, w => match w with
    | .non => some .none
    | .bl b => some (.bool b)
    | .int i => some (.int i)
    | .str x => if PySem.PyData.strOk x then some (.str x) else none
    | .tup xs => (mapO (toD h n) xs).map .tuple
    | .fl xs => (mapO (toD h n) xs).map .list
    | .scr xs => (mapO (toD h n) xs).map .list
    | .ref l => match h[l]? with
      | some (.lst xs) => (mapO (toD h n) xs).map .list
      | _ => none
    | _ => none
section
variable {K : PySem.W.Frag} {tb : Addr → Prop} {H H' : Hp} {g g' : G} {hd : Hd}
theorem dps_of {f : W → Option PyData} : ∀ {ws : List W} {vs : List V} {ds : List PyData}, (∀ w ∈ ws, ∀ v d, Rel K tb H g w v → f w = some d → Dp K H v d) → Rels K tb H g ws vs → mapO f ws = some ds → DpAll K H vs ds
  | [], vs, ds, _, r, e => by
    cases r
    cases e
    exact .nil
  | w :: ws, vs, ds, ih, r, e => by
    obtain ⟨v, vr, rfl, r1, r2⟩ := r.uncons
    unfold mapO at e
    cases e1 : f w with
    | none => rw [e1] at e; cases e
    | some d =>
      cases e2 : mapO f ws with
      | none => rw [e1, e2] at e; cases e
      | some ds' =>
        rw [e1, e2] at e
        cases e
        exact .cons (ih w List.mem_cons_self v d r1 e1) (dps_of (fun x hx => ih x (List.mem_cons_of_mem _ hx)) r2 e2)
theorem dp_of (k : Hr K tb H g hd) : ∀ (n : Nat) {w : W} {v : V} {d : PyData}, Rel K tb H g w v → toD hd n w = some d → Dp K H v d
  | 0, w, v, d, _, e => by cases e
  | n + 1, w, v, d, r, e => by
    cases w with
    | non => cases r; cases e; exact .non
    | bl b => cases r; cases e; exact .bl b
    | int i => cases r; cases e; exact .int i
    | str x =>
      cases r
      unfold toD at e
      dsimp only at e
      split at e
      · cases e; exact .str x
      · cases e
    | tup xs =>
      obtain ⟨ds, e1, rfl⟩ := Option.map_eq_some_iff.mp (show (mapO (toD hd n) xs).map .tuple = some d from e)
      cases r with
      | tup s t _ => exact .tup s (dps_of (fun w _ v d r e => dp_of k n r e) t e1)
    | fl xs =>
      obtain ⟨ds, e1, rfl⟩ := Option.map_eq_some_iff.mp (show (mapO (toD hd n) xs).map .list = some d from e)
      cases r with
      | fl s t _ => exact .lst (SqL.of s.1) (dps_of (fun w _ v d r e => dp_of k n r e) t e1)
    | scr xs =>
      obtain ⟨ds, e1, rfl⟩ := Option.map_eq_some_iff.mp (show (mapO (toD hd n) xs).map .list = some d from e)
      cases r with
      | scr s t _ => exact .lst s.sq (dps_of (fun w _ v d r e => dp_of k n r e) t e1)
    | ref l =>
      unfold toD at e
      dsimp only at e
      split at e
      · rename_i xs q
        obtain ⟨ds, e1, rfl⟩ := Option.map_eq_some_iff.mp e
        cases r with
        | ref hl _ =>
          obtain ⟨vs, h1, h2⟩ := k.obj _ _ _ hl q
          exact .lst (SqL.of h1) (dps_of (fun w _ v d r e => dp_of k n r e) h2 e1)
      · cases e
    | _ => cases e
theorem lays_of {f : W → Option PyData} : ∀ {ws : List W} {ds : List PyData}, (∀ w ∈ ws, ∀ d, f w = some d → d.canLay0 = true) → mapO f ws = some ds → PyData.canLayAll0 ds = true
  | [], ds, _, e => by cases e; simp [PyData.canLayAll0]
  | w :: ws, ds, ih, e => by
    unfold mapO at e
    cases e1 : f w with
    | none => rw [e1] at e; cases e
    | some d =>
      cases e2 : mapO f ws with
      | none => rw [e1, e2] at e; cases e
      | some ds' =>
        rw [e1, e2] at e
        cases e
        simp [PyData.canLayAll0, ih w List.mem_cons_self d e1, lays_of (fun x hx => ih x (List.mem_cons_of_mem _ hx)) e2]
theorem lay_of : ∀ (n : Nat) {w : W} {d : PyData}, toD hd n w = some d → d.canLay0 = true
  | 0, w, d, e => by cases e
  | n + 1, w, d, e => by
    cases w with
    | non => cases e; simp [PyData.canLay0]
    | bl b => cases e; simp [PyData.canLay0]
    | int i => cases e; simp [PyData.canLay0]
    | str x =>
      unfold toD at e
      dsimp only at e
      split at e
      · cases e; simpa [PyData.canLay0] using ‹_›
      · cases e
    | tup xs =>
      obtain ⟨ds, e1, rfl⟩ := Option.map_eq_some_iff.mp (show (mapO (toD hd n) xs).map .tuple = some d from e)
      simp only [PyData.canLay0]
      exact lays_of (fun w _ d e => lay_of n e) e1
    | fl xs =>
      obtain ⟨ds, e1, rfl⟩ := Option.map_eq_some_iff.mp (show (mapO (toD hd n) xs).map .list = some d from e)
      simp only [PyData.canLay0]
      exact lays_of (fun w _ d e => lay_of n e) e1
    | scr xs =>
      obtain ⟨ds, e1, rfl⟩ := Option.map_eq_some_iff.mp (show (mapO (toD hd n) xs).map .list = some d from e)
      simp only [PyData.canLay0]
      exact lays_of (fun w _ d e => lay_of n e) e1
    | ref l =>
      unfold toD at e
      dsimp only at e
      split at e
      · obtain ⟨ds, e1, rfl⟩ := Option.map_eq_some_iff.mp e
        simp only [PyData.canLay0]
        exact lays_of (fun w _ d e => lay_of n e) e1
      · cases e
    | _ => cases e
theorem deps_of {f : W → Option PyData} {n : Nat} : ∀ {ws : List W} {ds : List PyData}, (∀ w ∈ ws, ∀ d, f w = some d → d.depth ≤ n) → mapO f ws = some ds → PyData.depthAll ds ≤ n
  | [], ds, _, e => by cases e; simp [PyData.depthAll]
  | w :: ws, ds, ih, e => by
    unfold mapO at e
    cases e1 : f w with
    | none => rw [e1] at e; cases e
    | some d =>
      cases e2 : mapO f ws with
      | none => rw [e1, e2] at e; cases e
      | some ds' =>
        rw [e1, e2] at e
        cases e
        have h1 := ih w List.mem_cons_self d e1
        have h2 := deps_of (fun x hx => ih x (List.mem_cons_of_mem _ hx)) e2
        simp only [PyData.depthAll]
        omega
theorem dep_of : ∀ (n : Nat) {w : W} {d : PyData}, toD hd n w = some d → d.depth ≤ n
  | 0, w, d, e => by cases e
  | n + 1, w, d, e => by
    cases w with
    | non => cases e; simp [PyData.depth]
    | bl b => cases e; simp [PyData.depth]
    | int i => cases e; simp [PyData.depth]
    | str x =>
      unfold toD at e
      dsimp only at e
      split at e
      · cases e; simp [PyData.depth]
      · cases e
    | tup xs =>
      obtain ⟨ds, e1, rfl⟩ := Option.map_eq_some_iff.mp (show (mapO (toD hd n) xs).map .tuple = some d from e)
      have := deps_of (n := n) (fun w _ d e => dep_of n e) e1
      simp only [PyData.depth]
      omega
    | fl xs =>
      obtain ⟨ds, e1, rfl⟩ := Option.map_eq_some_iff.mp (show (mapO (toD hd n) xs).map .list = some d from e)
      have := deps_of (n := n) (fun w _ d e => dep_of n e) e1
      simp only [PyData.depth]
      omega
    | scr xs =>
      obtain ⟨ds, e1, rfl⟩ := Option.map_eq_some_iff.mp (show (mapO (toD hd n) xs).map .list = some d from e)
      have := deps_of (n := n) (fun w _ d e => dep_of n e) e1
      simp only [PyData.depth]
      omega
    | ref l =>
      unfold toD at e
      dsimp only at e
      split at e
      · obtain ⟨ds, e1, rfl⟩ := Option.map_eq_some_iff.mp e
        have := deps_of (n := n) (fun w _ d e => dep_of n e) e1
        simp only [PyData.depth]
        omega
      · cases e
    | _ => cases e
theorem shaped_of {w : W} {d : PyData} (e : toD hd 64 w = some d) : SeqAt.shaped d = true := by
  show (d.canLay0 && decide (d.depth ≤ 64)) = true
  rw [lay_of 64 e, Bool.true_and]
  exact decide_eq_true (dep_of 64 e)
end
end EV

set_option Elab.async false
set_option linter.all false
set_option maxRecDepth 100000
set_option maxHeartbeats 4000000
namespace EV
open PySem PySem.Spec L2

/-! ## operators -/
section
variable {X : Cx}
/-- from a rule by V: op never raises -/
theorem OpS.of {f : Value → Value → Sem Value} {r : R2} {op : Op2} (ho : OpR X f r)
    (h : ∀ (H : Hp) (g : G) (hd : Hd) (x y : V) (w1 w2 w : W) (hd' : Hd) (Q : VK), Hr X.K X.tb H g hd → Rel X.K X.tb H g w1 x → Rel X.K X.tb H g w2 y → op w1 w2 hd = .ok w hd' →
      (∀ v H' g', Ext H g H' g' → Hr X.K X.tb H' g' hd' → Rel X.K X.tb H' g' w v → Q v H') → r x y H Q)
    (hx : ∀ w1 w2 hd c h', op w1 w2 hd ≠ .exc c h' := by intros; simp) : OpS X f op := by
  intro Wx pins s σ H g hd x y v u w1 w2 I k rv ru r1 r2 hxo
  cases e : op w1 w2 hd with
  | bad => rw [e] at hxo; exact hxo.elim
  | exc c h' => exact (hx _ _ _ _ _ e).elim
  | ok w hd' =>
    refine thn (ho pins s σ H x y v u (fun v' H' => ∃ g', Ext H g H' g' ∧ Hr X.K X.tb H' g' hd' ∧ Rel X.K X.tb H' g' w v') I rv ru (h H g hd x y w1 w2 w hd' _ k r1 r2 e fun v' H' g' a b c => ⟨g', a, b, c⟩)) ?_
    rintro u' s' ⟨v', H', I', rv', g', a, b, c⟩
    exact ⟨w, hd', v', H', g', rfl, I', rv', a, b, c⟩
end

def oAdd : Op2 := fun x y h => match x, y with
  | .int i, .int j => .ok (.int (i + j)) h
  | .int i, .bl k => .ok (.int (i + PyProof.Rows.b2i k)) h
  | .str a, .str b => if a.length + b.length ≤ 16777216 then .ok (.str (a ++ b)) h else .bad
  | .tup xs, .tup ys => if xs.length + ys.length ≤ 16777216 then .ok (.tup (xs ++ ys)) h else .bad
  | x, y => match lstM h x, lstM h y with
    | some xs, some ys => if xs.length + ys.length ≤ 16777216 then .ok (.fl (xs ++ ys)) h else .bad
    | _, _ => .bad
def oSub : Op2 := fun x y h => match x, y with
  | .int i, .int j => .ok (.int (i - j)) h
  | _, _ => .bad
/-- the size of an int: below 2^64, or told by its bits -/
def small64 (i : Int) : Bool := decide (i.natAbs < 2 ^ 64)
def oMul : Op2 := fun x y h => match x, y with
  | .int i, .int j => if small64 i || small64 j || decide (i.natAbs.log2 + j.natAbs.log2 < 1000000) then .ok (.int (i * j)) h else .bad
  | .tup xs, .int k => if 2 ≤ k ∧ k ≤ 1000 ∧ xs.length ≤ 1000 ∧ xs ≠ [] then .ok (.tup (List.replicate k.toNat xs).flatten) h else .bad
  | x, .int k => match lstM h x with
    | some xs => if 0 ≤ k ∧ k ≤ 100000 ∧ xs.length ≤ 100 then .ok (.fl (List.replicate k.toNat xs).flatten) h else .bad
    | none => .bad
  | _, _ => .bad
def oDiv : Op2 := fun x y h => match x, y with
  | .int i, .int j => if 0 < j ∧ (j < 1073741824 ∨ j.natAbs.log2 < 9000) then .ok (.int (i / j)) h else .bad
  | _, _ => .bad
def oMod : Op2 := fun x y h => match x, y with
  | .int i, .int j => if 0 < j then .ok (.int (i % j)) h else .bad
  | _, _ => .bad
def oPow : Op2 := fun x y h => match x, y with
  | .int i, .int j => if 0 ≤ j ∧ j ≤ 1000000 ∧ i.natAbs < 2 ^ 64 then .ok (.int (i ^ j.toNat)) h else .bad
  | _, _ => .bad
/-- order -/
def okD (x y : PyData) : Bool := PySem.W.alike x y && (match x with
  | .none => false
  | _ => true)
def oOrd (fi : Int → Int → Bool) (fd : PyData → PyData → Bool) : Op2 := fun x y h => match x, y with
  | .int i, .int j => .ok (.bl (fi i j)) h
  | x, y => match toD h 64 x, toD h 64 y with
    | some d, some e => if okD d e then .ok (.bl (fd d e)) h else .bad
    | _, _ => .bad
def oLt : Op2 := oOrd (fun i j => decide (i < j)) fun d e => PySem.W.dataLt d e
def oGt : Op2 := oOrd (fun i j => decide (j < i)) fun d e => PySem.W.dataLt e d
def oLe : Op2 := oOrd (fun i j => decide (i ≤ j)) fun d e => !PySem.W.dataLt e d
def oGe : Op2 := oOrd (fun i j => decide (j ≤ i)) fun d e => !PySem.W.dataLt d e
def oEq : Op2 := fun x y h => match toD h 64 x, toD h 64 y with
  | some d, some e => .ok (.bl (PyData.eqv d e)) h
  | _, _ => .bad
def oNe : Op2 := fun x y h => match toD h 64 x, toD h 64 y with
  | some d, some e => .ok (.bl (!PyData.eqv d e)) h
  | _, _ => .bad
def isNonW : W → Bool
  | .non => true
  | _ => false
/-- is, is not: None, truth values -/
def oIs (neg : Bool) : Op2 := fun x y h => match y with
  | .non => .ok (.bl (isNonW x != neg)) h
  | .bl b => match x with
    | .bl a => .ok (.bl (decide (a = b) != neg)) h
    | _ => .bad
  | _ => .bad
/-- in, not in: lists, tuples -/
def oIn (neg : Bool) : Op2 := fun x y h => match toD h 64 x, toD h 64 y with
  | some d, some (.list ds) => .ok (.bl ((ds.any fun z => PyData.eqv z d) != neg)) h
  | some d, some (.tuple ds) => .ok (.bl ((ds.any fun z => PyData.eqv z d) != neg)) h
  | _, _ => .bad

section
variable {X : Cx}
theorem line_lit : (16777216 : Nat) ≤ sizeLine := by rw [sizeLine_eq]; exact Nat.le_refl _
def rAddAll (K : PySem.W.Frag) : R2 := fun x y H Q => ((rI0 fun i j => .int (i + j)) x y H Q ∨ (∃ i k, x = .int i ∧ y = .bl k ∧ Q (.int (i + PyProof.Rows.b2i k)) H)) ∨ ((∃ i j, x = .str i ∧ y = .str j ∧ i.length + j.length ≤ sizeLine ∧ Q (.str (i ++ j)) H) ∨ (rCatA K x y H Q ∨ rCat x y H Q))
theorem op_addAll : OpR X (binaryOp .Add) (rAddAll X.K) := (op_add.or op_add_ib).or (op_add_str.or (op_catA.or op_cat))
theorem oAdd_ok : OpS X (binaryOp .Add) oAdd := by
  refine OpS.of op_addAll (fun H g hd x y w1 w2 w hd' Q k r1 r2 e q => ?_) ?_
  · have lists : ∀ {xs ys : List W}, lstM hd w1 = some xs → lstM hd w2 = some ys → xs.length + ys.length ≤ 16777216 → w = .fl (xs ++ ys) → hd' = hd → rAddAll X.K x y H Q := fun {xs ys} e1 e2 hz ew eh => by
      subst ew eh
      obtain ⟨a, us, rfl, h1, t1⟩ := lstM_of k r1 e1
      obtain ⟨b, zs, rfl, h2, t2⟩ := lstM_of k r2 e2
      have l1 := t1.length
      have l2 := t2.length
      refine .inr (.inr (.inr ⟨a, b, us, zs, rfl, rfl, h1, h2, Nat.le_trans (by omega) line_lit, fun p hp => ?_⟩))
      have xx : Ext H g (upd H p (.lst (us ++ zs))) (g.frz p) := Ext.newF k hp
      exact q _ _ _ xx (Hr.newF k hp) (.fl ⟨upd_same, .inr rfl⟩ (xx.rels (t1.append t2)) .nil)
    unfold oAdd at e
    split at e
    · cases e; cases r1; cases r2; exact .inl (.inl ⟨_, _, rfl, rfl, q _ _ _ (.refl _ _) k (.int .nil)⟩)
    · cases e; cases r1; cases r2; exact .inl (.inr ⟨_, _, rfl, rfl, q _ _ _ (.refl _ _) k (.int .nil)⟩)
    · split at e
      · cases e; cases r1; cases r2
        exact .inr (.inl ⟨_, _, rfl, rfl, Nat.le_trans ‹_› line_lit, q _ _ _ (.refl _ _) k (.str .nil)⟩)
      · cases e
    · split at e
      · cases e
        cases r1 with
        | tup s1 t1 _ =>
          cases r2 with
          | tup s2 t2 _ =>
            have l1 := t1.length
            have l2 := t2.length
            refine .inr (.inr (.inl ⟨_, _, _, _, rfl, rfl, s1, s2, Nat.le_trans (by omega) line_lit, fun ez => ?_, fun _ ez => ?_, fun _ _ p hp => ?_⟩))
            · subst ez; cases t1
              exact q _ _ _ (.refl _ _) k (.tup s2 t2 .nil)
            · subst ez; cases t2
              rw [List.append_nil] at q
              exact q _ _ _ (.refl _ _) k (.tup s1 t1 .nil)
            · exact q _ _ _ (Ext.new k hp) (Hr.new k hp) (.tup (SqT.of upd_same) ((Ext.new k hp).rels (t1.append t2)) .nil)
      · cases e
    · split at e
      · split at e
        · cases e
          exact lists ‹_› ‹_› ‹_› rfl rfl
        · cases e
      · cases e
  · intro w1 w2 hd c h' e
    unfold oAdd at e
    repeat' split at e
    all_goals cases e
theorem oSub_ok : OpS X (binaryOp .Sub) oSub := by
  refine OpS.of op_sub (fun H g hd x y w1 w2 w hd' Q k r1 r2 e q => ?_) ?_
  · unfold oSub at e
    split at e
    · cases e; cases r1; cases r2; exact ⟨_, _, rfl, rfl, q _ _ _ (.refl _ _) k (.int .nil)⟩
    · cases e
  · intro w1 w2 hd c h' e
    unfold oSub at e
    repeat' split at e
    all_goals cases e
end
end EV

set_option Elab.async false
set_option linter.all false
set_option maxRecDepth 100000
set_option maxHeartbeats 4000000
namespace EV
open PySem PySem.Spec L2
section
variable {X : Cx}

theorem small64_ok {i : Int} (h : small64 i = true) : -(2 ^ 64) < i ∧ i < 2 ^ 64 := by
  unfold small64 at h
  have := of_decide_eq_true h
  omega
def rMulAll (K : PySem.W.Frag) : R2 := fun x y H Q => ((rI CMul fun i j => .int (i * j)) x y H Q ∨ (rI CMulW fun i j => .int (i * j)) x y H Q) ∨ (rRepT K x y H Q ∨ rRep x y H Q)
theorem op_mulAll : OpR X (binaryOp .Mult) (rMulAll X.K) := (op_mul.or op_mulW).or (op_repT.or op_rep)
theorem Rels.rep {K : PySem.W.Frag} {tb : Addr → Prop} {H : Hp} {g : G} {ws : List W} {vs : List V} (h : Rels K tb H g ws vs) : ∀ n : Nat, Rels K tb H g (List.replicate n ws).flatten (List.replicate n vs).flatten
  | 0 => .nil
  | n + 1 => by
    rw [List.replicate_succ, List.replicate_succ, List.flatten_cons, List.flatten_cons]
    exact h.append (h.rep n)
theorem oMul_ok : OpS X (binaryOp .Mult) oMul := by
  refine OpS.of op_mulAll (fun H g hd x y w1 w2 w hd' Q k r1 r2 e q => ?_) ?_
  · unfold oMul at e
    split at e
    · split at e
      · cases e
        rename_i i j hc
        simp only [Bool.or_eq_true] at hc
        cases r1
        cases r2
        rcases hc with (hc | hc) | hc
        · exact .inl (.inl ⟨_, _, rfl, rfl, .inl (small64_ok hc), q _ _ _ (.refl _ _) k (.int .nil)⟩)
        · exact .inl (.inl ⟨_, _, rfl, rfl, .inr (small64_ok hc), q _ _ _ (.refl _ _) k (.int .nil)⟩)
        · exact .inl (.inr ⟨_, _, rfl, rfl, (show i.natAbs.log2 + j.natAbs.log2 < 1000000 from of_decide_eq_true hc), q _ _ _ (.refl _ _) k (.int .nil)⟩)
      · cases e
    · split at e
      · cases e
        rename_i hc
        obtain ⟨h1, h2, h3, h4⟩ := hc
        cases r2
        cases r1 with
        | tup s t _ =>
          have l := t.length
          refine .inr (.inl ⟨_, _, _, rfl, rfl, s, fun z => h4 ?_, h1, h2, by omega, fun p hp => ?_⟩)
          · subst z
            exact List.eq_nil_of_length_eq_zero l
          · exact q _ _ _ (Ext.new k hp) (Hr.new k hp) (.tup (SqT.of upd_same) ((Ext.new k hp).rels (t.rep _)) .nil)
      · cases e
    · split at e
      · split at e
        · cases e
          rename_i xs q1 hc
          obtain ⟨h1, h2, h3⟩ := hc
          cases r2
          obtain ⟨a, us, rfl, hs, t⟩ := lstM_of k r1 q1
          have l := t.length
          refine .inr (.inr ⟨_, _, _, rfl, rfl, hs, by omega, by omega, Nat.le_trans ?_ line_lit, fun p hp => ?_⟩)
          · exact Nat.le_trans (Nat.mul_le_mul (show us.length ≤ 100 by omega) (Int.toNat_le.mpr (show _ ≤ ((100000 : Nat) : Int) from h2))) (by decide)
          · exact q _ _ _ (Ext.newF k hp) (Hr.newF k hp) (.fl ⟨upd_same, .inr rfl⟩ ((Ext.newF k hp).rels (t.rep _)) .nil)
        · cases e
      · cases e
    · cases e
  · intro w1 w2 hd c h' e
    unfold oMul at e
    repeat' split at e
    all_goals cases e
theorem oDiv_ok : OpS X (binaryOp .FloorDiv) oDiv := by
  refine OpS.of (op_fdiv.or op_fdivW) (fun H g hd x y w1 w2 w hd' Q k r1 r2 e q => ?_) ?_
  · unfold oDiv at e
    split at e
    · split at e
      · cases e
        rename_i hc
        obtain ⟨h1, h2⟩ := hc
        cases r1
        cases r2
        rcases h2 with h2 | h2
        · exact .inl ⟨_, _, rfl, rfl, ⟨h1, h2⟩, q _ _ _ (.refl _ _) k (.int .nil)⟩
        · exact .inr ⟨_, _, rfl, rfl, ⟨h1, h2⟩, q _ _ _ (.refl _ _) k (.int .nil)⟩
      · cases e
    · cases e
  · intro w1 w2 hd c h' e
    unfold oDiv at e
    repeat' split at e
    all_goals cases e
theorem oMod_ok : OpS X (binaryOp .Mod) oMod := by
  refine OpS.of op_mod (fun H g hd x y w1 w2 w hd' Q k r1 r2 e q => ?_) ?_
  · unfold oMod at e
    split at e
    · split at e
      · cases e
        cases r1
        cases r2
        exact ⟨_, _, rfl, rfl, ‹_›, q _ _ _ (.refl _ _) k (.int .nil)⟩
      · cases e
    · cases e
  · intro w1 w2 hd c h' e
    unfold oMod at e
    repeat' split at e
    all_goals cases e
theorem oPow_ok : OpS X (binaryOp .Pow) oPow := by
  refine OpS.of op_pow (fun H g hd x y w1 w2 w hd' Q k r1 r2 e q => ?_) ?_
  · unfold oPow at e
    split at e
    · split at e
      · cases e
        rename_i hc
        cases r1
        cases r2
        exact ⟨_, _, rfl, rfl, hc, q _ _ _ (.refl _ _) k (.int .nil)⟩
      · cases e
    · cases e
  · intro w1 w2 hd c h' e
    unfold oPow at e
    repeat' split at e
    all_goals cases e

/-! ### order, equality -/
def rOrdD (K : PySem.W.Frag) (fd : PyData → PyData → Bool) : R2 := fun x y H Q => ∃ d e, Dp K H x d ∧ Dp K H y e ∧ SeqAt.shaped d = true ∧ PySem.W.alike d e = true ∧ d ≠ .none ∧ Q (.bl (fd d e)) H
theorem op_ordD {op : CmpOp} {fd : PyData → PyData → Bool} (hu : X.A.units + 64 < cLine)
    (rule : ∀ (s : Shared) (a b : Value) (da db : PyData) (as bs : List Addr) (Q : Value → Shared → Prop), Reads s.heap a da as → Reads s.heap b db bs → PySem.W.alike da db = true → da ≠ .none → X.A.units + min da.depth db.depth < cLine → Q (.bool (fd da db)) s → wpAny (model X.prog X.w) X.A (compareOp op a b) Q X.xe s) :
    OpR X (compareOp op) (rOrdD X.K fd) := by
  intro pins s σ H x y v u Q I rx ry h
  obtain ⟨d, e, hd, he, sd, al, hn, q⟩ := h
  obtain ⟨as, r1⟩ := Dp.reads I d x v hd rx
  obtain ⟨bs, r2⟩ := Dp.reads I e y u he ry
  exact rule s v u d e as bs _ r1 r2 al hn (SeqAt.room_of_shaped sd hu) ⟨.bl _, H, I, rfl, q⟩
theorem oOrd_ok {op : CmpOp} {fi : Int → Int → Bool} {fd : PyData → PyData → Bool} (h1 : OpR X (compareOp op) (rI0 fun i j => .bl (fi i j))) (h2 : OpR X (compareOp op) (rOrdD X.K fd)) : OpS X (compareOp op) (oOrd fi fd) := by
  refine OpS.of (h1.or h2) (fun H g hd x y w1 w2 w hd' Q k r1 r2 e q => ?_) ?_
  · unfold oOrd at e
    split at e
    · cases e; cases r1; cases r2
      exact .inl ⟨_, _, rfl, rfl, q _ _ _ (.refl _ _) k (.bl .nil)⟩
    · split at e
      · split at e
        · cases e
          rename_i d e e1 e2 ok
          have ok' : PySem.W.alike d e = true ∧ d ≠ .none := by
            unfold okD at ok
            rw [Bool.and_eq_true] at ok
            refine ⟨ok.1, ?_⟩
            rintro rfl
            exact absurd ok.2 (by simp)
          exact .inr ⟨d, e, dp_of k 64 r1 e1, dp_of k 64 r2 e2, shaped_of e1, ok'.1, ok'.2, q _ _ _ (.refl _ _) k (.bl .nil)⟩
        · cases e
      · cases e
  · intro w1 w2 hd c h' e
    unfold oOrd at e
    repeat' split at e
    all_goals cases e
theorem oLt_ok (hu : X.A.units + 64 < cLine) : OpS X (compareOp .Lt) oLt := oOrd_ok op_lt (op_ordD hu fun _ _ _ _ _ _ _ _ a b c d e f => PySem.W.lt_data a b c d e f)
theorem oGt_ok (hu : X.A.units + 64 < cLine) : OpS X (compareOp .Gt) oGt := oOrd_ok op_gt (op_ordD hu fun _ _ _ _ _ _ _ _ a b c d e f => PySem.W.gt_data a b c d e f)
theorem oLe_ok (hu : X.A.units + 64 < cLine) : OpS X (compareOp .LtE) oLe := oOrd_ok op_le (op_ordD hu fun _ _ _ _ _ _ _ _ a b c d e f => PySem.W.le_data a b c d e f)
theorem oGe_ok (hu : X.A.units + 64 < cLine) : OpS X (compareOp .GtE) oGe := oOrd_ok op_ge (op_ordD hu fun _ _ _ _ _ _ _ _ a b c d e f => PySem.W.ge_data a b c d e f)
theorem oEq_ok (hu : X.A.units + 64 < cLine) : OpS X (compareOp .Eq) oEq := by
  refine OpS.of (op_eqD hu) (fun H g hd x y w1 w2 w hd' Q k r1 r2 e q => ?_) ?_
  · unfold oEq at e
    split at e
    · cases e
      rename_i d e e1 e2
      exact ⟨d, e, dp_of k 64 r1 e1, dp_of k 64 r2 e2, shaped_of e1, shaped_of e2, q _ _ _ (.refl _ _) k (.bl .nil)⟩
    · cases e
  · intro w1 w2 hd c h' e
    unfold oEq at e
    repeat' split at e
    all_goals cases e
theorem oNe_ok (hu : X.A.units + 64 < cLine) : OpS X (compareOp .NotEq) oNe := by
  refine OpS.of (op_neD hu) (fun H g hd x y w1 w2 w hd' Q k r1 r2 e q => ?_) ?_
  · unfold oNe at e
    split at e
    · cases e
      rename_i d e e1 e2
      exact ⟨d, e, dp_of k 64 r1 e1, dp_of k 64 r2 e2, shaped_of e1, shaped_of e2, q _ _ _ (.refl _ _) k (.bl .nil)⟩
    · cases e
  · intro w1 w2 hd c h' e
    unfold oNe at e
    repeat' split at e
    all_goals cases e
theorem isNon_rel {K : PySem.W.Frag} {tb : Addr → Prop} {H : Hp} {g : G} {w : W} {v : V} (r : Rel K tb H g w v) : isNonW w = decide (v = .non) := by
  cases r <;> simp [isNonW]
theorem oIs_ok : OpS X (compareOp .Is) (oIs false) := by
  refine OpS.of (op_isN.or op_is_bl) (fun H g hd x y w1 w2 w hd' Q k r1 r2 e q => ?_) ?_
  · unfold oIs at e
    split at e
    · cases e
      cases r2
      refine .inl ⟨rfl, ?_⟩
      rw [isNon_rel r1, Bool.bne_false] at q
      exact q _ _ _ (.refl _ _) k (.bl .nil)
    · split at e
      · cases e
        cases r1; cases r2
        rw [Bool.bne_false] at q
        exact .inr ⟨_, _, rfl, rfl, q _ _ _ (.refl _ _) k (.bl .nil)⟩
      · cases e
    · cases e
  · intro w1 w2 hd c h' e
    unfold oIs at e
    repeat' split at e
    all_goals cases e
theorem oIsNot_ok : OpS X (compareOp .IsNot) (oIs true) := by
  refine OpS.of (op_notN.or op_isnot_bl) (fun H g hd x y w1 w2 w hd' Q k r1 r2 e q => ?_) ?_
  · unfold oIs at e
    split at e
    · cases e
      cases r2
      refine .inl ⟨rfl, ?_⟩
      rw [isNon_rel r1, Bool.bne_true] at q
      exact q _ _ _ (.refl _ _) k (.bl .nil)
    · split at e
      · cases e
        cases r1; cases r2
        rw [Bool.bne_true] at q
        exact .inr ⟨_, _, rfl, rfl, q _ _ _ (.refl _ _) k (.bl .nil)⟩
      · cases e
    · cases e
  · intro w1 w2 hd c h' e
    unfold oIs at e
    repeat' split at e
    all_goals cases e
def rInT (K : PySem.W.Frag) (neg : Bool) : R2 := fun x y H Q => ∃ d ds, Dp K H x d ∧ Dp K H y (.tuple ds) ∧ SeqAt.shaped d = true ∧ SeqAt.shaped (.tuple ds) = true ∧ Q (.bl ((ds.any fun z => PyData.eqv z d) != neg)) H
theorem room_inT {ds : List PyData} {d : PyData} {A : Around} (sd : SeqAt.shaped d = true) (hu : A.units + 65 < cLine) : A.units + 1 + min (PyData.depthAll ds) d.depth < cLine := by
  have h1 := SeqAt.depth_of_shaped sd
  have h2 : min (PyData.depthAll ds) d.depth ≤ d.depth := Nat.min_le_right _ _
  omega
theorem lay_tup {ds : List PyData} (h : SeqAt.shaped (.tuple ds) = true) : PyData.canLayAll0 ds = true := by
  have := SeqAt.canLay_of_shaped h
  simpa only [PyData.canLay0] using this
theorem op_inT (hu : X.A.units + 65 < cLine) : OpR X (compareOp .In) (rInT X.K false) := by
  intro pins s σ H x y v u Q I rx ry h
  obtain ⟨d, ds, hd, he, sd, se, q⟩ := h
  obtain ⟨as, r1⟩ := Dp.reads I d x v hd rx
  obtain ⟨bs, r2⟩ := Dp.reads I (.tuple ds) y u he ry
  rw [Bool.bne_false] at q
  exact SeqAt.in_tuple_reads r2 r1 (lay_tup se) (SeqAt.canLay_of_shaped sd) (room_inT sd hu) ⟨.bl _, H, I, rfl, q⟩
theorem op_notInT (hu : X.A.units + 65 < cLine) : OpR X (compareOp .NotIn) (rInT X.K true) := by
  intro pins s σ H x y v u Q I rx ry h
  obtain ⟨d, ds, hd, he, sd, se, q⟩ := h
  obtain ⟨as, r1⟩ := Dp.reads I d x v hd rx
  obtain ⟨bs, r2⟩ := Dp.reads I (.tuple ds) y u he ry
  rw [Bool.bne_true] at q
  exact SeqAt.notIn_tuple_reads r2 r1 (lay_tup se) (SeqAt.canLay_of_shaped sd) (room_inT sd hu) ⟨.bl _, H, I, rfl, q⟩
theorem oIn_core {neg : Bool} {op : CmpOp} {rl : R2} (h1 : OpR X (compareOp op) rl) (hl : ∀ x y H Q, (∃ d ds, Dp X.K H x d ∧ Dp X.K H y (.list ds) ∧ SeqAt.shaped d = true ∧ SeqAt.shaped (.list ds) = true ∧ Q (.bl ((ds.any fun z => PyData.eqv z d) != neg)) H) → rl x y H Q)
    (h2 : OpR X (compareOp op) (rInT X.K neg)) : OpS X (compareOp op) (oIn neg) := by
  refine OpS.of (h1.or h2) (fun H g hd x y w1 w2 w hd' Q k r1 r2 e q => ?_) ?_
  · unfold oIn at e
    split at e
    · cases e
      rename_i e1 e2
      exact .inl (hl _ _ _ _ ⟨_, _, dp_of k 64 r1 e1, dp_of k 64 r2 e2, shaped_of e1, shaped_of e2, q _ _ _ (.refl _ _) k (.bl .nil)⟩)
    · cases e
      rename_i e1 e2
      exact .inr ⟨_, _, dp_of k 64 r1 e1, dp_of k 64 r2 e2, shaped_of e1, shaped_of e2, q _ _ _ (.refl _ _) k (.bl .nil)⟩
    · cases e
  · intro w1 w2 hd c h' e
    unfold oIn at e
    repeat' split at e
    all_goals cases e
theorem oIn_ok (hu : X.A.units + 65 < cLine) : OpS X (compareOp .In) (oIn false) := oIn_core (op_inD hu) (fun x y H Q ⟨d, ds, a, b, c, e, q⟩ => ⟨d, ds, a, b, c, e, by rw [Bool.bne_false] at q; exact q⟩) (op_inT hu)
theorem oNotIn_ok (hu : X.A.units + 65 < cLine) : OpS X (compareOp .NotIn) (oIn true) := oIn_core (op_notInD hu) (fun x y H Q ⟨d, ds, a, b, c, e, q⟩ => ⟨d, ds, a, b, c, e, by rw [Bool.bne_true] at q; exact q⟩) (op_notInT hu)
end
end EV

set_option Elab.async false
set_option linter.all false
set_option maxRecDepth 100000
set_option maxHeartbeats 4000000
namespace EV
open PySem PySem.Spec L2

/-! ## truth -/
def truthW (h : Hd) : W → Option Bool
  | .non => some false
  | .bl b => some b
  | .int i => some (i != 0)
  | .str y => if y.length ≤ 16777216 then some ((y.length : Int) != 0) else none
  | .tup xs => some (!xs.isEmpty)
  | .fl xs => some (!xs.isEmpty)
  | .scr xs => some (!xs.isEmpty)
  | .ref l => match h[l]? with
    | some (.lst xs) => some (!xs.isEmpty)
    | _ => none
  | _ => none
theorem Rels.empty {K : PySem.W.Frag} {tb : Addr → Prop} {H : Hp} {g : G} {ws : List W} {vs : List V} (h : Rels K tb H g ws vs) : ws.isEmpty = vs.isEmpty := by
  cases h <;> rfl
theorem truth_of {K : PySem.W.Frag} {tb : Addr → Prop} {H : Hp} {g : G} {hd : Hd} (k : Hr K tb H g hd) {w : W} {v : V} {b : Bool} (r : Rel K tb H g w v) (e : truthW hd w = some b) : TruV K v H b := by
  cases w with
  | non => cases r; cases e; rfl
  | bl c => cases r; cases e; rfl
  | int i => cases r; cases e; rfl
  | str y =>
    cases r
    unfold truthW at e
    dsimp only at e
    split at e
    · cases e; exact ⟨Nat.le_trans ‹_› line_lit, rfl⟩
    · cases e
  | tup xs =>
    cases e
    cases r with
    | tup s t _ => exact .inr (.inl ⟨_, s, by rw [t.empty]⟩)
  | fl xs =>
    cases e
    cases r with
    | fl s t _ => exact .inl ⟨_, SqL.of s.1, by rw [t.empty]⟩
  | scr xs =>
    cases e
    cases r with
    | scr s t _ => exact .inl ⟨_, s.sq, by rw [t.empty]⟩
  | ref l =>
    unfold truthW at e
    dsimp only at e
    split at e
    · rename_i xs q
      cases e
      cases r with
      | ref hl _ =>
        obtain ⟨vs, h1, h2⟩ := k.obj _ _ _ hl q
        exact .inl ⟨_, SqL.of h1, by rw [h2.empty]⟩
    · cases e
  | _ => cases e
def asT : W → Hd → R Bool := fun w h => match truthW h w with
  | some b => .ok b h
  | none => .bad
def mTru (m : Sg → Hd → R W) : Sg → Hd → R Bool := fun σ h => (m σ h).bind asT
section
variable {X : Cx} {Wx : WX} {e a b c : Expr} {pos : Pos} {rest : List Expr} {ma mb mc : Sg → Hd → R W} {ta tb : Sg → Hd → R Bool}
theorem tru_go {pins : List (Addr × Obj)} {s : Shared} {σ : St} {H : Hp} {g : G} {hd : Hd} {w : W} {v : V} {u : Value} {Wx : WX} (I : Inv X pins σ H s) (k : Hr X.K X.tb H g hd) (rv : RelV v u) (r : Rel X.K X.tb H g w v) (hx : XOk X Wx σ H g (asT w hd)) :
    wpAny (model X.prog X.w) X.A (truthy u) (fun b s' => asT w hd = .ok b hd ∧ Inv X pins σ H s') X.xe s := by
  unfold asT at hx ⊢
  cases e : truthW hd w with
  | none => rw [e] at hx; exact hx.elim
  | some b =>
    refine thn (tru_ok pins s σ H v u (fun c H' => c = b ∧ H' = H) I rv ⟨b, truth_of k r e, rfl, rfl⟩) fun c s2 ⟨H2, I2, e1, e2⟩ => ?_
    subst e1
    subst e2
    exact ⟨rfl, I2⟩
theorem t_tru (ha : SE X Wx a ma) (he : ∀ whole, isTrue a X.env whole = (do let v ← whole; standAt a.pos; holding [v] (truthy v)) := by intro _; rfl) : ST X Wx a (mTru ma) := by
  refine ST.mk fun pins s σ H σd hd g I hr sr hx => ?_
  refine PyProof.Rows.isTrue_plain (thn (ha.go I hr sr hx.bind1) fun u s1 ⟨w, h1, v, H1, g1, e1, I1, rv, x1, k1, r1⟩ => ?_) (he _)
  have hx1 := XOk.bind2 hx e1 x1
  refine thn (tru_go I1 k1 rv r1 hx1) fun b s2 ⟨e2, I2⟩ => ⟨h1, H1, g1, ?_, I2, x1, k1⟩
  show (ma σd hd).bind asT = _
  rw [e1]
  exact e2
/-! ## and, or, not, if-else -/
def mIf (t : Sg → Hd → R Bool) (ma mb : Sg → Hd → R W) : Sg → Hd → R W := fun σ h => (t σ h).bind fun c h1 => if c = true then ma σ h1 else mb σ h1
theorem s_if (hc : ST X Wx c ta) (ha : SE X Wx a ma) (hb : SE X Wx b mb) : SE X Wx (.IfExp c a b pos) (mIf ta ma mb) := by
  refine SE.mk fun pins s σ H σd hd g I hr sr hx => ?_
  refine PySem.wpAny_IfExp (thn (hc.go I hr sr hx.bind1) fun b s1 ⟨h1, H1, g1, e1, I1, x1, k1⟩ => ?_)
  have hx1 := XOk.bind2 hx e1 x1
  have ee : mIf ta ma mb σd hd = if b = true then ma σd h1 else mb σd h1 := by unfold mIf; rw [e1]; rfl
  rw [ee]
  cases b with
  | true => exact thn (ha.go I1 k1 (sr.ext x1) hx1) fun u s2 q => q.ext x1
  | false => exact thn (hb.go I1 k1 (sr.ext x1) hx1) fun u s2 q => q.ext x1
/-- tests -/
abbrev SW (X : Cx) (Wx : WX) (e : Expr) (m : Sg → Hd → R Bool) : Prop := PW X e (tT X Wx m)
def mAnd (ta tb : Sg → Hd → R Bool) : Sg → Hd → R Bool := fun σ h => (ta σ h).bind fun c h1 => if c = true then tb σ h1 else .ok false h1
def mOr (ta tb : Sg → Hd → R Bool) : Sg → Hd → R Bool := fun σ h => (ta σ h).bind fun c h1 => if c = true then .ok true h1 else tb σ h1
def mNot (ta : Sg → Hd → R Bool) : Sg → Hd → R Bool := fun σ h => (ta σ h).bind fun c h1 => .ok (!c) h1
theorem tT_imp {m : Sg → Hd → R Bool} {σ : St} {H : Hp} {Q : Bool → Hp → Prop} {σd : Sg} {hd : Hd} {g : G} (hr : Hr X.K X.tb H g hd) (sr : Sr X.K X.tb H g σd σ) (hx : XOk X Wx σ H g (m σd hd))
    (q : ∀ b hd', m σd hd = .ok b hd' → ∀ H' g', Ext H g H' g' → Hr X.K X.tb H' g' hd' → Q b H') : tT X Wx m σ H Q := ⟨σd, hd, g, hr, sr, hx, q⟩
theorem w_and1 (ha : ST X Wx a ta) : SW X Wx (.BoolOp .And [a] pos) ta := pw_and1 ha
theorem w_or1 (ha : ST X Wx a ta) : SW X Wx (.BoolOp .Or [a] pos) ta := pw_or1 ha
theorem w_and (ha : ST X Wx a ta) (hb : SW X Wx (.BoolOp .And (b :: rest) pos) tb) : SW X Wx (.BoolOp .And (a :: b :: rest) pos) (mAnd ta tb) := by
  refine ⟨fun wh pins s σ H Q I h => (pw_and ha hb).run wh pins s σ H Q I ?_⟩
  obtain ⟨σd, hd, g, hr, sr, hx, q⟩ := h
  refine tT_imp hr sr hx.bind1 fun c h1 e1 H1 g1 x1 k1 => ?_
  have hx1 := XOk.bind2 hx e1 x1
  have ee : mAnd ta tb σd hd = if c = true then tb σd h1 else .ok false h1 := by unfold mAnd; rw [e1]; rfl
  rw [ee] at q
  cases c with
  | true => exact tT_imp k1 (sr.ext x1) hx1 fun b h2 e2 H2 g2 x2 k2 => q b h2 e2 H2 g2 (x1.trans x2) k2
  | false => exact q false h1 rfl H1 g1 x1 k1
theorem w_or (ha : ST X Wx a ta) (hb : SW X Wx (.BoolOp .Or (b :: rest) pos) tb) : SW X Wx (.BoolOp .Or (a :: b :: rest) pos) (mOr ta tb) := by
  refine ⟨fun wh pins s σ H Q I h => (pw_or ha hb).run wh pins s σ H Q I ?_⟩
  obtain ⟨σd, hd, g, hr, sr, hx, q⟩ := h
  refine tT_imp hr sr hx.bind1 fun c h1 e1 H1 g1 x1 k1 => ?_
  have hx1 := XOk.bind2 hx e1 x1
  have ee : mOr ta tb σd hd = if c = true then .ok true h1 else tb σd h1 := by unfold mOr; rw [e1]; rfl
  rw [ee] at q
  cases c with
  | true => exact q true h1 rfl H1 g1 x1 k1
  | false => exact tT_imp k1 (sr.ext x1) hx1 fun b h2 e2 H2 g2 x2 k2 => q b h2 e2 H2 g2 (x1.trans x2) k2
theorem t_w (h : SW X Wx e ta) : ST X Wx e ta := h.pt
theorem t_not (ha : ST X Wx a ta) : ST X Wx (.UnaryOp .Not a pos) (mNot ta) := by
  refine ⟨fun pins s σ H Q I h => (pt_not ha).run pins s σ H Q I ?_⟩
  obtain ⟨σd, hd, g, hr, sr, hx, q⟩ := h
  refine tT_imp hr sr hx.bind1 fun c h1 e1 H1 g1 x1 k1 => q (!c) h1 (by unfold mNot; rw [e1]; rfl) H1 g1 x1 k1
/-- values -/
def mAndV (ma mb : Sg → Hd → R W) : Sg → Hd → R W := fun σ h => (ma σ h).bind fun x h1 => (asT x h1).bind fun c h2 => if c = true then mb σ h2 else .ok x h2
def mOrV (ma mb : Sg → Hd → R W) : Sg → Hd → R W := fun σ h => (ma σ h).bind fun x h1 => (asT x h1).bind fun c h2 => if c = true then .ok x h2 else mb σ h2
def mNotV (ma : Sg → Hd → R W) : Sg → Hd → R W := fun σ h => (ma σ h).bind fun x h1 => (asT x h1).bind fun c h2 => .ok (.bl (!c)) h2
theorem s_one {op : BoolOp} (ha : SE X Wx a ma) : SE X Wx (.BoolOp op [a] pos) ma := pe_one ha
theorem s_and (ha : SE X Wx a ma) (hb : SE X Wx (.BoolOp .And (b :: rest) pos) mb) : SE X Wx (.BoolOp .And (a :: b :: rest) pos) (mAndV ma mb) := by
  refine SE.mk fun pins s σ H σd hd g I hr sr hx => ?_
  refine PyProof.Rows.BoolOp_and (thn (ha.go I hr sr hx.bind1) fun u s1 ⟨w, h1, v, H1, g1, e1, I1, rv, x1, k1, r1⟩ => ?_)
  have hx1 := XOk.bind2 hx e1 x1
  refine thn (tru_go I1 k1 rv r1 hx1.bind1) fun b s2 ⟨e2, I2⟩ => ?_
  have hx2 := XOk.bind2 hx1 e2 (.refl _ _)
  have ee : mAndV ma mb σd hd = if b = true then mb σd h1 else .ok w h1 := by unfold mAndV; rw [e1]; show (asT w h1).bind _ = _; rw [e2]; rfl
  rw [ee]
  cases b with
  | true => exact thn (hb.go I2 k1 (sr.ext x1) hx2) fun u s3 q => q.ext x1
  | false => exact ⟨w, h1, v, H1, g1, rfl, I2, rv, x1, k1, r1⟩
theorem s_or (ha : SE X Wx a ma) (hb : SE X Wx (.BoolOp .Or (b :: rest) pos) mb) : SE X Wx (.BoolOp .Or (a :: b :: rest) pos) (mOrV ma mb) := by
  refine SE.mk fun pins s σ H σd hd g I hr sr hx => ?_
  refine PyProof.Rows.BoolOp_or (thn (ha.go I hr sr hx.bind1) fun u s1 ⟨w, h1, v, H1, g1, e1, I1, rv, x1, k1, r1⟩ => ?_)
  have hx1 := XOk.bind2 hx e1 x1
  refine thn (tru_go I1 k1 rv r1 hx1.bind1) fun b s2 ⟨e2, I2⟩ => ?_
  have hx2 := XOk.bind2 hx1 e2 (.refl _ _)
  have ee : mOrV ma mb σd hd = if b = true then .ok w h1 else mb σd h1 := by unfold mOrV; rw [e1]; show (asT w h1).bind _ = _; rw [e2]; rfl
  rw [ee]
  cases b with
  | false => exact thn (hb.go I2 k1 (sr.ext x1) hx2) fun u s3 q => q.ext x1
  | true => exact ⟨w, h1, v, H1, g1, rfl, I2, rv, x1, k1, r1⟩
theorem s_not (ha : SE X Wx a ma) : SE X Wx (.UnaryOp .Not a pos) (mNotV ma) := by
  refine SE.mk fun pins s σ H σd hd g I hr sr hx => ?_
  refine PyProof.Rows.UnaryOp_ (thn (ha.go I hr sr hx.bind1) fun u s1 ⟨w, h1, v, H1, g1, e1, I1, rv, x1, k1, r1⟩ => ?_)
  have hx1 := XOk.bind2 hx e1 x1
  refine PyProof.Rows.not_of (thn (tru_go I1 k1 rv r1 hx1.bind1) fun b s2 ⟨e2, I2⟩ => ?_)
  refine ⟨.bl (!b), h1, .bl (!b), H1, g1, ?_, I2, rfl, x1, k1, .bl .nil⟩
  unfold mNotV; rw [e1]; show (asT w h1).bind _ = _; rw [e2]; rfl
def mNeg (ma : Sg → Hd → R W) : Sg → Hd → R W := fun σ h => (ma σ h).bind fun x h1 => match x with
  | .int i => .ok (.int (-i)) h1
  | _ => .bad
theorem s_neg (ha : SE X Wx a ma) : SE X Wx (.UnaryOp .USub a pos) (mNeg ma) := by
  refine SE.mk fun pins s σ H σd hd g I hr sr hx => ?_
  refine PyProof.Rows.UnaryOp_ (thn (ha.go I hr sr hx.bind1) fun u s1 ⟨w, h1, v, H1, g1, e1, I1, rv, x1, k1, r1⟩ => ?_)
  have hx1 := XOk.bind2 hx e1 x1
  cases w with
  | int i =>
    cases r1
    refine thn (un_neg pins s1 σ H1 _ u (fun v' H' => v' = .int (-i) ∧ H' = H1) I1 rv ⟨_, rfl, rfl, rfl⟩) fun u2 s2 ⟨v2, H2, I2, rv2, ev, eH⟩ => ?_
    subst ev
    subst eH
    exact ⟨.int (-i), h1, .int (-i), H2, g1, by unfold mNeg; rw [e1]; rfl, I2, rv2, x1, k1, .int .nil⟩
  | _ => exact hx1.elim
/-! ## chains of comparisons -/
def mChain (o1 o2 : Op2) (ma mb mc : Sg → Hd → R W) : Sg → Hd → R W := fun σ h => (ma σ h).bind fun x h1 => (mb σ h1).bind fun y h2 => (o1 x y h2).bind fun z h3 => (asB z h3).bind fun c h4 =>
  if c = true then (mc σ h4).bind fun w h5 => o2 y w h5 else .ok (.bl false) h4
theorem asB_go {w : W} {h h' : Hd} {c : Bool} (e : asB w h = .ok c h') : w = .bl c ∧ h' = h := by
  unfold asB at e
  cases w <;> cases e
  exact ⟨rfl, rfl⟩
theorem asB_ok {w : W} {h : Hd} {σ : St} {H : Hp} {g : G} (hx : XOk X Wx σ H g (asB w h)) : ∃ c, w = .bl c := by
  cases w with
  | bl c => exact ⟨c, rfl⟩
  | _ => exact hx.elim
section
variable {o1 o2 : Op2} {op op' : CmpOp}
theorem s_chain (ho : OpS X (compareOp op) o1) (ho' : OpS X (compareOp op') o2) (ha : SE X Wx a ma) (hb : SE X Wx b mb) (hc : SE X Wx c mc) (hm : lastMarks [op, op'] [b, c] = false := by with_unfolding_all rfl) :
    SE X Wx (.Compare a [op, op'] [b, c] pos) (mChain o1 o2 ma mb mc) := by
  refine SE.mk fun pins s σ H σd hd g I hr sr hx => ?_
  have hxc := hx
  unfold mChain at hx
  refine PyProof.Rows.Compare_chain (thn (ha.go I hr sr hx.bind1) fun v s1 ⟨w1, h1, x, H1, g1, e1, I1, rv1, x1, k1, r1⟩ => PyProof.Rows.chain_link ?_) hm
  have hx1 := XOk.bind2 hx e1 x1
  refine thn (hb.go I1 k1 (sr.ext x1) hx1.bind1) fun u s2 ⟨w2, h2, y, H2, g2, e2, I2, rv2, x2, k2, r2⟩ => ?_
  have hx2 := XOk.bind2 hx1 e2 x2
  refine thn (ho Wx pins s2 σ H2 g2 h2 x y v u w1 w2 I2 k2 rv1 rv2 (x2.rels r1) r2 hx2.bind1) fun d s3 ⟨w3, h3, z, H3, g3, e3, I3, rv3, x3, k3, r3⟩ => ?_
  have hx3 := XOk.bind2 hx2 e3 x3
  obtain ⟨q, rfl⟩ := asB_ok hx3.bind1
  have hx4 := XOk.bind2 hx3 (show asB (.bl q) h3 = .ok q h3 from rfl) (.refl _ _)
  cases r3
  cases rv3
  have ee : mChain o1 o2 ma mb mc σd hd = (if q = true then (mc σd h3).bind fun w h5 => o2 w2 w h5 else .ok (.bl false) h3) := by
    unfold mChain
    rw [e1]
    show (mb σd h1).bind _ = _
    rw [e2]
    show (o1 w1 w2 h2).bind _ = _
    rw [e3]
    rfl
  rw [ee]
  refine PySem.wpAny_truthy_bool ?_
  cases q with
  | false => exact PyProof.Rows.ite_ff ⟨.bl false, h3, .bl false, H3, g3, rfl, I3, rfl, (x1.trans x2).trans x3, k3, .bl .nil⟩
  | true =>
    refine PyProof.Rows.ite_tt (PyProof.Rows.chain_last (thn (hc.go I3 k3 ((sr.ext x1).ext (x2.trans x3)) hx4.bind1) fun t s4 ⟨w4, h4, z', H4, g4, e4, I4, rv4, x4, k4, r4⟩ => ?_))
    have hx5 := XOk.bind2 hx4 e4 x4
    rw [if_pos rfl, e4]
    exact thn (ho' Wx pins s4 σ H4 g4 h4 y z' u t w2 w4 I4 k4 rv2 rv4 ((x3.trans x4).rels r2) r4 hx5) fun u s5 q => q.ext (((x1.trans x2).trans x3).trans x4)
theorem t_chain (ho : OpS X (compareOp op) o1) (ho' : OpS X (compareOp op') o2) (ha : SE X Wx a ma) (hb : SE X Wx b mb) (hc : SE X Wx c mc) (hm : lastMarks [op, op'] [b, c] = false := by with_unfolding_all rfl) :
    ST X Wx (.Compare a [op, op'] [b, c] pos) (mTest (mChain o1 o2 ma mb mc)) := by
  refine ST.mk fun pins s σ H σd hd g I hr sr hx => ?_
  have hxa := hx
  unfold mTest mChain at hx
  have hx0 := hx.bind1
  refine PyProof.Rows.isTrue_chain (thn (ha.go I hr sr hx0.bind1) fun v s1 ⟨w1, h1, x, H1, g1, e1, I1, rv1, x1, k1, r1⟩ => PyProof.Rows.test_link ?_) hm
  have hx1 := XOk.bind2 hx0 e1 x1
  refine thn (hb.go I1 k1 (sr.ext x1) hx1.bind1) fun u s2 ⟨w2, h2, y, H2, g2, e2, I2, rv2, x2, k2, r2⟩ => ?_
  have hx2 := XOk.bind2 hx1 e2 x2
  refine thn (ho Wx pins s2 σ H2 g2 h2 x y v u w1 w2 I2 k2 rv1 rv2 (x2.rels r1) r2 hx2.bind1) fun d s3 ⟨w3, h3, z, H3, g3, e3, I3, rv3, x3, k3, r3⟩ => ?_
  have hx3 := XOk.bind2 hx2 e3 x3
  obtain ⟨q, rfl⟩ := asB_ok hx3.bind1
  have hx4 := XOk.bind2 hx3 (show asB (.bl q) h3 = .ok q h3 from rfl) (.refl _ _)
  cases r3
  cases rv3
  have ee : mTest (mChain o1 o2 ma mb mc) σd hd = ((if q = true then (mc σd h3).bind fun w h5 => o2 w2 w h5 else .ok (.bl false) h3) : R W).bind asB := by
    unfold mTest mChain
    rw [e1]
    show ((mb σd h1).bind _).bind _ = _
    rw [e2]
    show ((o1 w1 w2 h2).bind _).bind _ = _
    rw [e3]
    rfl
  rw [ee]
  refine PySem.wpAny_truthy_bool ?_
  cases q with
  | false => exact PyProof.Rows.ite_ff ⟨h3, H3, g3, rfl, I3, (x1.trans x2).trans x3, k3⟩
  | true =>
    refine PyProof.Rows.ite_tt (PyProof.Rows.test_last (thn (hc.go I3 k3 ((sr.ext x1).ext (x2.trans x3)) hx4.bind1) fun t s4 ⟨w4, h4, z', H4, g4, e4, I4, rv4, x4, k4, r4⟩ => ?_))
    have hx5 := XOk.bind2 hx4 e4 x4
    rw [if_pos rfl, e4]
    refine thn (ho' Wx pins s4 σ H4 g4 h4 y z' u t w2 w4 I4 k4 rv2 rv4 ((x3.trans x4).rels r2) r4 hx5) fun d' s5 ⟨w5, h5, z5, H5, g5, e5, I5, rv5, x5, k5, r5⟩ => ?_
    have hx6 : XOk X Wx σ H5 g5 (asB w5 h5) := by
      rw [e1] at hx
      have hx := (show XOk X Wx σ H g (((mb σd h1).bind _).bind asB) from hx)
      rw [e2] at hx
      have hx := (show XOk X Wx σ H g (((o1 w1 w2 h2).bind _).bind asB) from hx)
      rw [e3] at hx
      have hx := (show XOk X Wx σ H g (((mc σd h3).bind _).bind asB) from hx)
      rw [e4] at hx
      have hx := (show XOk X Wx σ H g ((o2 w2 w4 h4).bind asB) from hx)
      rw [e5] at hx
      exact XOk.ext hx ((((x1.trans x2).trans x3).trans x4).trans x5)
    obtain ⟨q', rfl⟩ := asB_ok hx6
    cases r5
    cases rv5
    refine PySem.wpAny_truthy_bool ⟨h5, H5, g5, ?_, I5, (((x1.trans x2).trans x3).trans x4).trans x5, k5⟩
    show (o2 w2 w4 h4).bind asB = _
    rw [e5]
    rfl
end
end

/-! ## calls of built-in functions -/
/-- a function of values -/
abbrev Fn := List W → Hd → R W
/-- a rule of values serves it -/
def CallS (X : Cx) (f : Value) (F : Fn) : Prop :=
  ∀ (Wx : WX) (pins : List (Addr × Obj)) (s : Shared) (σ : St) (H : Hp) (g : G) (hd : Hd) (ws : List W) (vs : List V) (us : List Value), Inv X pins σ H s → Hr X.K X.tb H g hd → Vals vs us → Rels X.K X.tb H g ws vs → XOk X Wx σ H g (F ws hd) →
    wpAny (model X.prog X.w) X.A (call f us) (OkE X pins σ H g (F ws hd)) X.xe s
section
variable {X : Cx} {Wx : WX} {e : Expr} {es : List Expr} {pos p : Pos} {me : Sg → Hd → R W} {mes : Sg → Hd → R (List W)}
theorem CallS.of {f : Value} {r : List V → Hp → VK → Prop} {F : Fn} (ho : CallR X f r)
    (h : ∀ (H : Hp) (g : G) (hd : Hd) (ws : List W) (vs : List V) (w : W) (hd' : Hd) (Q : VK), Hr X.K X.tb H g hd → Rels X.K X.tb H g ws vs → F ws hd = .ok w hd' →
      (∀ v H' g', Ext H g H' g' → Hr X.K X.tb H' g' hd' → Rel X.K X.tb H' g' w v → Q v H') → r vs H Q)
    (hx : ∀ ws hd c h', F ws hd ≠ .exc c h' := by intros; simp) : CallS X f F := by
  intro Wx pins s σ H g hd ws vs us I k rv r1 hxo
  cases e : F ws hd with
  | bad => rw [e] at hxo; exact hxo.elim
  | exc c h' => exact (hx _ _ _ _ e).elim
  | ok w hd' =>
    refine thn (ho pins s σ H vs us (fun v' H' => ∃ g', Ext H g H' g' ∧ Hr X.K X.tb H' g' hd' ∧ Rel X.K X.tb H' g' w v') I rv (h H g hd ws vs w hd' _ k r1 e fun v' H' g' a b c => ⟨g', a, b, c⟩)) ?_
    rintro u' s' ⟨v', H', I', rv', g', a, b, c⟩
    exact ⟨w, hd', v', H', g', rfl, I', rv', a, b, c⟩
def mNil : Sg → Hd → R (List W) := fun _ h => .ok [] h
def mCons (me : Sg → Hd → R W) (mes : Sg → Hd → R (List W)) : Sg → Hd → R (List W) := fun σ h => (me σ h).bind fun w h1 => (mes σ h1).bind fun ws h2 => .ok (w :: ws) h2
theorem a_nil : SA X Wx [] mNil := ⟨fun pos pins s σ H Q I ⟨σd, hd, g, hr, sr, hx, q⟩ => pa_nil.run pos pins s σ H Q I (q [] hd rfl [] H g (.refl _ _) hr .nil)⟩
theorem a_cons (ha : SE X Wx e me) (hr : SA X Wx es mes) (hs : starEach (e :: es) X.env = (false, eval e X.env) :: starEach es X.env := by rfl) : SA X Wx (e :: es) (mCons me mes) := by
  refine SA.mk fun pos pins s σ H σd hd g I k sr hx => ?_
  rw [hs]
  show wpAny _ _ (spliced ((false, eval e X.env) :: backTo pos (starEach es X.env))) _ _ s
  refine Calls.spliced_cons (thn (ha.go I k sr hx.bind1) fun u s1 ⟨w, h1, v, H1, g1, e1, I1, rv, x1, k1, r1⟩ => ?_)
  have hx1 := XOk.bind2 hx e1 x1
  refine thn (hr.go pos I1 k1 (sr.ext x1) hx1.bind1) fun us s2 ⟨ws, h2, vs, H2, g2, e2, I2, rvs, x2, k2, r2⟩ => ?_
  refine ⟨w :: ws, h2, v :: vs, H2, g2, ?_, I2, .cons rv rvs, x1.trans x2, k2, .cons (x2.rels r1) r2⟩
  unfold mCons
  rw [e1]
  show (mes σd h1).bind _ = _
  rw [e2]
  rfl
/-- *e in a display -/
def mStar (me : Sg → Hd → R W) (mes : Sg → Hd → R (List W)) : Sg → Hd → R (List W) := fun σ h => (me σ h).bind fun w h1 => match seqOf h1 w with
  | some xs => (mes σ h1).bind fun ws h2 => .ok (xs ++ ws) h2
  | none => .bad
theorem a_star (ha : SE X Wx e me) (hr : SA X Wx es mes) (hs : starEach (.Starred e p :: es) X.env = (true, eval e X.env) :: starEach es X.env := by rfl) : SA X Wx (.Starred e p :: es) (mStar me mes) := by
  refine SA.mk fun pos pins s σ H σd hd g I k sr hx => ?_
  refine PySem.W.items_star (thn (ha.go I k sr hx.bind1) fun u s1 ⟨w, h1, v, H1, g1, e1, I1, rv, x1, k1, r1⟩ => ?_) hs
  have hx1 := XOk.bind2 hx e1 x1
  cases q : seqOf h1 w with
  | none => rw [q] at hx1; exact hx1.elim
  | some xs =>
    rw [q] at hx1
    obtain ⟨a, us, rfl, hq, t⟩ := seq_of k1 r1 q
    obtain rfl : u = Value.ref a := rv
    refine StX.star_any I1 (hq.symm) fun us' s2 I2 rvs => ?_
    refine thn (hr.go pos I2 k1 (sr.ext x1) (XOk.bind1 hx1)) fun zs s3 ⟨ws, h2, vs, H2, g2, e2, I3, rvz, x2, k2, r2⟩ => ?_
    refine ⟨xs ++ ws, h2, us ++ vs, H2, g2, ?_, I3, rvs.append rvz, x1.trans x2, k2, (x2.rels t).append r2⟩
    unfold mStar
    rw [e1]
    show (match seqOf h1 w with | some xs => _ | none => _) = _
    rw [q]
    show (mes σd h1).bind _ = _
    rw [e2]
    rfl
/-- displays: a tuple, a list by value, a list that may change -/
def mTup (mes : Sg → Hd → R (List W)) : Sg → Hd → R W := fun σ h => (mes σ h).bind fun ws h1 => if ws.length ≤ 16777216 then .ok (.tup ws) h1 else .bad
def mLst (mes : Sg → Hd → R (List W)) : Sg → Hd → R W := fun σ h => (mes σ h).bind fun ws h1 => if ws.length ≤ 16777216 then .ok (.fl ws) h1 else .bad
def mNew (mes : Sg → Hd → R (List W)) : Sg → Hd → R W := fun σ h => (mes σ h).bind fun ws h1 => if ws.length ≤ 16777216 then .ok (.ref h1.length) (h1 ++ [.lst ws]) else .bad
theorem ext_ok {σd : Sg} {hd : Hd} {H : Hp} {g : G} {σ : St} {f : List W → Hd → R W} {Q : VK} (k : Hr X.K X.tb H g hd) (sr : Sr X.K X.tb H g σd σ) (hx : XOk X Wx σ H g ((mes σd hd).bind f)) (q : OkQ X H g ((mes σd hd).bind f) Q)
    {R : List V → Hp → Prop} (h : ∀ ws h1 vs H1 g1, mes σd hd = .ok ws h1 → Ext H g H1 g1 → Hr X.K X.tb H1 g1 h1 → Rels X.K X.tb H1 g1 ws vs → XOk X Wx σ H1 g1 (f ws h1) → OkQ X H1 g1 (f ws h1) Q → R vs H1) : tA X Wx mes σ H R := by
  refine ⟨σd, hd, g, k, sr, hx.bind1, fun ws h1 e1 vs H1 g1 x1 k1 r1 => h ws h1 vs H1 g1 e1 x1 k1 r1 (XOk.bind2 hx e1 x1) fun w hd' e v H' g' x' k' r' => ?_⟩
  exact q w hd' (by rw [e1]; exact e) v H' g' (x1.trans x') k' r'
theorem s_tup {x1 : Nat} (h : SA X Wx es mes) : SE X Wx (.Tuple es x1 pos) (mTup mes) := by
  refine ⟨fun pins s σ H Q I ⟨σd, hd, g, k, sr, hx, q⟩ => (pe_tup h).run pins s σ H Q I (ext_ok k sr hx q fun ws h1 vs H1 g1 e1 x1 k1 r1 hx1 q1 => ?_)⟩
  split at hx1
  · rename_i hz
    rw [if_pos hz] at q1
    exact ⟨Nat.le_trans (by rw [← r1.length]; exact hz) line_lit, fun p hp => q1 _ _ rfl _ _ _ (Ext.new k1 hp) (Hr.new k1 hp) (.tup (SqT.of upd_same) ((Ext.new k1 hp).rels r1) .nil)⟩
  · exact hx1.elim
theorem s_lst (h : SA X Wx es mes) : SE X Wx (.List es pos) (mLst mes) := by
  refine ⟨fun pins s σ H Q I ⟨σd, hd, g, k, sr, hx, q⟩ => (pe_lst h).run pins s σ H Q I (ext_ok k sr hx q fun ws h1 vs H1 g1 e1 x1 k1 r1 hx1 q1 => ?_)⟩
  split at hx1
  · rename_i hz
    rw [if_pos hz] at q1
    exact ⟨Nat.le_trans (by rw [← r1.length]; exact hz) line_lit, fun p hp => q1 _ _ rfl _ _ _ (Ext.newF k1 hp) (Hr.newF k1 hp) (.fl ⟨upd_same, .inr rfl⟩ ((Ext.newF k1 hp).rels r1) .nil)⟩
  · exact hx1.elim
theorem s_new (h : SA X Wx es mes) : SE X Wx (.List es pos) (mNew mes) := by
  refine ⟨fun pins s σ H Q I ⟨σd, hd, g, k, sr, hx, q⟩ => (pe_lst h).run pins s σ H Q I (ext_ok k sr hx q fun ws h1 vs H1 g1 e1 x1 k1 r1 hx1 q1 => ?_)⟩
  split at hx1
  · rename_i hz
    rw [if_pos hz] at q1
    refine ⟨Nat.le_trans (by rw [← r1.length]; exact hz) line_lit, fun p hp => ?_⟩
    have x2 : Ext H1 g1 (upd H1 p (.lst vs)) (g1.app p) := Ext.newR k1 hp
    exact q1 _ _ rfl _ _ _ x2 (Hr.newR k1 hp ⟨vs, upd_same, x2.rels r1⟩) (.ref (by rw [← k1.len]; simp) .nil)
  · exact hx1.elim
/-- a call of a built-in function, of a built-in type -/
def mCall (F : Fn) (mes : Sg → Hd → R (List W)) : Sg → Hd → R W := fun σ h => (mes σ h).bind F
theorem call_go {f : Value} {F : Fn} (hc : CallS X f F) (ha : SA X Wx es mes) (pos : Pos) {pins : List (Addr × Obj)} {s : Shared} {σ : St} {H : Hp} {σd : Sg} {hd : Hd} {g : G} (I : Inv X pins σ H s) (k : Hr X.K X.tb H g hd) (sr : Sr X.K X.tb H g σd σ) (hx : XOk X Wx σ H g (mCall F mes σd hd)) :
    wpAny (model X.prog X.w) X.A (spliced (backTo pos (starEach es X.env))) (fun us s1 => wpAny (model X.prog X.w) X.A (call f us) (OkE X pins σ H g (mCall F mes σd hd)) X.xe s1) X.xe s := by
  unfold mCall at hx ⊢
  refine thn (ha.go pos I k sr hx.bind1) fun us s1 ⟨ws, h1, vs, H1, g1, e1, I1, rvs, x1, k1, r1⟩ => ?_
  rw [e1]
  exact thn (hc Wx pins s1 σ H1 g1 h1 ws vs us I1 k1 rvs r1 (XOk.bind2 hx e1 x1)) fun u s2 q => q.ext x1
theorem s_callB {x : Str} {id : String} {F : Fn} (hc : CallS X (.builtin id) F) (hg : Gl X x) (hm : X.mg x = none) (hv : bootBuiltins x = some (.builtin id)) (ha : SA X Wx (e :: es) mes) (hn : x ≠ "__name__" := by decide) (hdb : (x == ("__debug__" : Str)) = false := by decide)
    (he : starEach (e :: es) X.env = (false, eval e X.env) :: starEach es X.env := by rfl) (hpl : (backTo pos (starEach es X.env)).any (·.1) = false := by rfl) : SE X Wx (.Call (.Name x p) (e :: es) [] pos) (mCall F mes) :=
  SE.mk fun pins s σ H σd hd g I k sr hx => PySem.wpAny_Call_Name_kw (ld_blt I hg hm hv (PyProof.Rows.callWith_builtin1 (call_go hc ha pos I k sr hx) he hpl) hn hdb)
theorem s_callTy {x : Str} {T : String} {F : Fn} (hc : CallS X (.type T) F) (hg : Gl X x) (hm : X.mg x = none) (hv : bootBuiltins x = some (.type T)) (ha : SA X Wx (e :: es) mes) (hn : x ≠ "__name__" := by decide) (hdb : (x == ("__debug__" : Str)) = false := by decide)
    (he : starEach (e :: es) X.env = (false, eval e X.env) :: starEach es X.env := by rfl) (hpl : (backTo pos (starEach es X.env)).any (·.1) = false := by rfl) : SE X Wx (.Call (.Name x p) (e :: es) [] pos) (mCall F mes) :=
  SE.mk fun pins s σ H σd hd g I k sr hx => PySem.wpAny_Call_Name_kw (ld_blt I hg hm hv (PyProof.Rows.callWith_type1 (call_go hc ha pos I k sr hx) he hpl) hn hdb)
end
end EV

set_option Elab.async false
set_option linter.all false
set_option maxRecDepth 100000
set_option maxHeartbeats 4000000
namespace EV
open PySem PySem.Spec L2

/-! ## built-in functions -/
def fLen : Fn := fun ws h => match ws with
  | [.str z] => if z.length ≤ 16777216 then .ok (.int z.length) h else .bad
  | [w] => match seqOf h w with
    | some xs => .ok (.int xs.length) h
    | none => .bad
  | _ => .bad
def fAbs : Fn := fun ws h => match ws with
  | [.int i] => .ok (.int (if i < 0 then -i else i)) h
  | _ => .bad
def fInt : Fn := fun ws h => match ws with
  | [.int i] => .ok (.int i) h
  | [.bl k] => .ok (.int (if k then 1 else 0)) h
  | _ => .bad
def intsOf : List W → Option (List Int)
  | [] => some []
  | .int i :: ws => (intsOf ws).map (i :: ·)
  | _ :: _ => none
def fSum : Fn := fun ws h => match ws with
  | [w] => match lstOf h w with
    | some xs => match intsOf xs with
      | some ns => .ok (.int ns.sum) h
      | none => .bad
    | none => .bad
  | _ => .bad
def fTuple : Fn := fun ws h => match ws with
  | [w] => match seqOf h w with
    | some xs => .ok (.tup xs) h
    | none => .bad
  | _ => .bad
/-- list(x) by value, and one that may change -/
def fList : Fn := fun ws h => match ws with
  | [w] => match seqOf h w with
    | some xs => .ok (.fl xs) h
    | none => .bad
  | _ => .bad
def fListN : Fn := fun ws h => match ws with
  | [w] => match seqOf h w with
    | some xs => .ok (.ref h.length) (h ++ [.lst xs])
    | none => .bad
  | _ => .bad
def fMax : Fn := fun ws h => match ws with
  | [.int i, .int j] => .ok (.int (if j > i then j else i)) h
  | _ => .bad
def fMin : Fn := fun ws h => match ws with
  | [.int i, .int j] => .ok (.int (if j < i then j else i)) h
  | _ => .bad
section
variable {X : Cx} {K : PySem.W.Frag} {tb : Addr → Prop} {H : Hp} {g : G}
theorem ints_of : ∀ {ws : List W} {ns : List Int}, intsOf ws = some ns → ws = ns.map W.int
  | [], _, e => by cases e; rfl
  | w :: ws, ns, e => by
    cases w with
    | int i =>
      obtain ⟨ms, e1, rfl⟩ := Option.map_eq_some_iff.mp (show (intsOf ws).map (i :: ·) = some ns from e)
      rw [ints_of e1]
      rfl
    | _ => cases e
theorem rels1 {w : W} {vs : List V} (h : Rels K tb H g [w] vs) : ∃ v, vs = [v] ∧ Rel K tb H g w v := by
  obtain ⟨v, vr, rfl, h1, h2⟩ := h.uncons
  cases h2
  exact ⟨v, rfl, h1⟩
theorem fLen_ok : CallS X (.builtin "len") fLen := by
  refine CallS.of (call_len_seq.or call_len_str) (fun H g hd ws vs w hd' Q k r e q => ?_) ?_
  · unfold fLen at e
    split at e
    · split at e
      · cases e
        obtain ⟨v, rfl, r⟩ := rels1 r
        cases r
        exact .inr ⟨_, rfl, Nat.le_trans ‹_› line_lit, q _ _ _ (.refl _ _) k (.int .nil)⟩
      · cases e
    · split at e
      · cases e
        rename_i xs e1
        obtain ⟨v, rfl, r⟩ := rels1 r
        obtain ⟨a, us, rfl, s, t⟩ := seq_of k r e1
        refine .inl ⟨a, us, rfl, s, ?_⟩
        rw [← t.length]
        exact q _ _ _ (.refl _ _) k (.int .nil)
      · cases e
    · cases e
  · intro ws hd c h' e
    unfold fLen at e
    repeat' split at e
    all_goals cases e
theorem fAbs_ok : CallS X (.builtin "abs") fAbs := by
  refine CallS.of call_abs (fun H g hd ws vs w hd' Q k r e q => ?_) ?_
  · unfold fAbs at e
    split at e
    · cases e
      obtain ⟨v, rfl, r⟩ := rels1 r
      cases r
      exact ⟨_, rfl, q _ _ _ (.refl _ _) k (.int .nil)⟩
    · cases e
  · intro ws hd c h' e
    unfold fAbs at e
    repeat' split at e
    all_goals cases e
theorem fInt_ok : CallS X (.type "int") fInt := by
  refine CallS.of call_int1 (fun H g hd ws vs w hd' Q k r e q => ?_) ?_
  · unfold fInt at e
    split at e
    · cases e
      obtain ⟨v, rfl, r⟩ := rels1 r
      cases r
      exact .inl ⟨_, rfl, q _ _ _ (.refl _ _) k (.int .nil)⟩
    · cases e
      obtain ⟨v, rfl, r⟩ := rels1 r
      cases r
      exact .inr ⟨_, rfl, q _ _ _ (.refl _ _) k (.int .nil)⟩
    · cases e
  · intro ws hd c h' e
    unfold fInt at e
    repeat' split at e
    all_goals cases e
theorem fMax_ok (hc : X.calm = true) : CallS X (.builtin "max") fMax := by
  refine CallS.of (call_max2 hc) (fun H g hd ws vs w hd' Q k r e q => ?_) ?_
  · unfold fMax at e
    split at e
    · cases e
      obtain ⟨v, vr, rfl, h1, h2⟩ := r.uncons
      obtain ⟨v2, rfl, h2⟩ := rels1 h2
      cases h1; cases h2
      exact ⟨_, _, rfl, q _ _ _ (.refl _ _) k (.int .nil)⟩
    · cases e
  · intro ws hd c h' e
    unfold fMax at e
    repeat' split at e
    all_goals cases e
theorem fMin_ok (hc : X.calm = true) : CallS X (.builtin "min") fMin := by
  refine CallS.of (call_min2 hc) (fun H g hd ws vs w hd' Q k r e q => ?_) ?_
  · unfold fMin at e
    split at e
    · cases e
      obtain ⟨v, vr, rfl, h1, h2⟩ := r.uncons
      obtain ⟨v2, rfl, h2⟩ := rels1 h2
      cases h1; cases h2
      exact ⟨_, _, rfl, q _ _ _ (.refl _ _) k (.int .nil)⟩
    · cases e
  · intro ws hd c h' e
    unfold fMin at e
    repeat' split at e
    all_goals cases e
theorem fSum_ok (hc : X.calm = true) : CallS X (.builtin "sum") fSum := by
  refine CallS.of (cr_sum hc) (fun H g hd ws vs w hd' Q k r e q => ?_) ?_
  · unfold fSum at e
    split at e
    · split at e
      · split at e
        · cases e
          rename_i _ xs e1 _ ns e2
          obtain ⟨v, rfl, r⟩ := rels1 r
          obtain ⟨a, us, rfl, s, t⟩ := lst_of k r e1
          rw [ints_of e2] at t
          rw [t.ints] at s
          exact ⟨a, ns, rfl, s, q _ _ _ (.refl _ _) k (.int .nil)⟩
        · cases e
      · cases e
    · cases e
  · intro ws hd c h' e
    unfold fSum at e
    repeat' split at e
    all_goals cases e
theorem seqOf_cases {hd : Hd} {w : W} {xs : List W} (e : seqOf hd w = some xs) : w = .tup xs ∨ lstOf hd w = some xs := by
  cases w with
  | tup ys => cases e; exact .inl rfl
  | _ => exact .inr e
theorem fTuple_ok : CallS X (.type "tuple") fTuple := by
  refine CallS.of call_tuple_of (fun H g hd ws vs w hd' Q k r e q => ?_) ?_
  · unfold fTuple at e
    split at e
    · split at e
      · cases e
        rename_i e1
        obtain ⟨v, rfl, r⟩ := rels1 r
        rcases seqOf_cases e1 with rfl | e1
        · cases r with
          | tup s t _ => exact ⟨_, _, rfl, .inr ⟨s, q _ _ _ (.refl _ _) k (.tup s t .nil)⟩⟩
        · obtain ⟨a, us, rfl, s, t⟩ := lst_of k r e1
          exact ⟨a, us, rfl, .inl ⟨s, fun p hp => q _ _ _ (Ext.new k hp) (Hr.new k hp) (.tup (SqT.of upd_same) ((Ext.new k hp).rels t) .nil)⟩⟩
      · cases e
    · cases e
  · intro ws hd c h' e
    unfold fTuple at e
    repeat' split at e
    all_goals cases e
theorem fList_ok : CallS X (.type "list") fList := by
  refine CallS.of call_list_of (fun H g hd ws vs w hd' Q k r e q => ?_) ?_
  · unfold fList at e
    split at e
    · split at e
      · cases e
        rename_i e1
        obtain ⟨v, rfl, r⟩ := rels1 r
        obtain ⟨a, us, rfl, s, t⟩ := seq_of k r e1
        exact ⟨a, us, rfl, s, fun p hp => q _ _ _ (Ext.newF k hp) (Hr.newF k hp) (.fl ⟨upd_same, .inr rfl⟩ ((Ext.newF k hp).rels t) .nil)⟩
      · cases e
    · cases e
  · intro ws hd c h' e
    unfold fList at e
    repeat' split at e
    all_goals cases e
theorem fListN_ok : CallS X (.type "list") fListN := by
  refine CallS.of call_list_of (fun H g hd ws vs w hd' Q k r e q => ?_) ?_
  · unfold fListN at e
    split at e
    · split at e
      · cases e
        rename_i e1
        obtain ⟨v, rfl, r⟩ := rels1 r
        obtain ⟨a, us, rfl, s, t⟩ := seq_of k r e1
        refine ⟨a, us, rfl, s, fun p hp => ?_⟩
        have x2 : Ext H g (upd H p (.lst us)) (g.app p) := Ext.newR k hp
        exact q _ _ _ x2 (Hr.newR k hp ⟨us, upd_same, x2.rels t⟩) (.ref (by rw [← k.len]; simp) .nil)
      · cases e
    · cases e
  · intro ws hd c h' e
    unfold fListN at e
    repeat' split at e
    all_goals cases e
end

/-! ## isinstance -/
def tyW (h : Hd) : W → Option String
  | .non => some "NoneType"
  | .bl _ => some "bool"
  | .int _ => some "int"
  | .str _ => some "str"
  | .tup _ => some "tuple"
  | .fl _ => some "list"
  | .scr _ => some "list"
  | .fd _ _ => some "dict"
  | .ref l => match h[l]? with
    | some (.lst _) => some "list"
    | some (.dct _ _) => some "dict"
    | _ => none
  | _ => none
def isTy (t T : String) : Bool := (t == T) || (t == "bool" && T == "int")
def mIsi (T : String) (m : Sg → Hd → R W) : Sg → Hd → R W := fun σ h => (m σ h).bind fun w h1 => match tyW h1 w with
  | some t => .ok (.bl (isTy t T)) h1
  | none => .bad
section
variable {X : Cx} {Wx : WX}
theorem dcO_ty {K : PySem.W.Frag} {H : Hp} {a : Addr} {ks : List W} {us : List V} {o : HO} (h : H a = some o) (d : DcO ks us o) : TyX K H (.ref a) (.type "dict") := by
  rcases d with ⟨kk, _, _, _, rfl⟩ | ⟨kk, _, _, _, rfl⟩
  · exact .base (.dK h)
  · exact .base (.dT h)
theorem sqT_ty {K : PySem.W.Frag} {H : Hp} {a : Addr} {us : List V} (h : SqT K H a us) : TyX K H (.ref a) (.type "tuple") := by
  rcases h with (h | ⟨o, h⟩) | ⟨o, its, n, h, hc, _⟩
  · exact .base (.tup h)
  · exact .fTuple h
  · exact .kTuple h hc
theorem scAt_ty {K : PySem.W.Frag} {H : Hp} {g : G} {a : Addr} {us : List V} (h : ScAt K H g a us) : TyX K H (.ref a) (.type "list") := by
  rcases h with h | ⟨o, h⟩ | ⟨o, its, n, h, hc, _⟩
  · exact .base (.lst h.1)
  · exact .base (.frz h)
  · exact .kList h hc
theorem tyW_ok {K : PySem.W.Frag} {tb : Addr → Prop} {H : Hp} {g : G} {hd : Hd} (k : Hr K tb H g hd) {w : W} {v : V} {t : String} (r : Rel K tb H g w v) (e : tyW hd w = some t) : TyX K H v (.type t) := by
  cases w with
  | non => cases r; cases e; exact .base .non
  | bl b => cases r; cases e; exact .base (.bl b)
  | int b => cases r; cases e; exact .base (.int b)
  | str b => cases r; cases e; exact .base (.str b)
  | tup xs => cases e; cases r with | tup s t _ => exact sqT_ty s
  | fl xs => cases e; cases r with | fl s t _ => exact .base (.lst s.1)
  | scr xs => cases e; cases r with | scr s t _ => exact scAt_ty s
  | fd ks xs => cases e; cases r with | fd s f d t _ => exact dcO_ty s d
  | ref l =>
    cases r with
    | ref hl _ =>
      unfold tyW at e
      dsimp only at e
      split at e
      · rename_i xs q
        cases e
        obtain ⟨vs, h1, h2⟩ := k.obj _ _ _ hl q
        exact .base (.lst h1)
      · rename_i ks xs q
        cases e
        obtain ⟨o, vs, h1, h2, _⟩ := k.obj _ _ _ hl q
        exact dcO_ty h1 h2
      · cases e
  | _ => cases e
/-- the built-in types that are asked for -/
theorem kit_all {K : PySem.W.Frag} {t T : String} (ht : t ∈ ["NoneType", "bool", "int", "str", "tuple", "list", "dict"]) (hT : T ∈ ["bool", "int", "str", "tuple", "list", "dict"]) : PySem.W.kitOne K (.type t) (.type T) = some (isTy t T) := by
  have h : ∀ t ∈ ["NoneType", "bool", "int", "str", "tuple", "list", "dict"], ∀ T ∈ ["bool", "int", "str", "tuple", "list", "dict"], kitB t T = some (isTy t T) := by decide +kernel
  exact kit_ty (h t ht T hT)
theorem tyW_mem {hd : Hd} {w : W} {t : String} (e : tyW hd w = some t) : t ∈ ["NoneType", "bool", "int", "str", "tuple", "list", "dict"] := by
  cases w with
  | ref l =>
    unfold tyW at e
    dsimp only at e
    split at e
    all_goals cases e
    all_goals simp
  | _ => cases e <;> simp
theorem s_isi {e : Expr} {x : Str} {T : String} {pos p p2 : Pos} {m : Sg → Hd → R W} (ha : SE X Wx e m) (hg : Gl X "isinstance") (hm : X.mg "isinstance" = none) (hg2 : Gl X x) (hm2 : X.mg x = none) (hv2 : bootBuiltins x = some (.type T))
    (hT : T ∈ ["bool", "int", "str", "tuple", "list", "dict"]) (hn : x ≠ "__name__" := by decide) (hdb : (x == ("__debug__" : Str)) = false := by decide)
    (he : starEach [e, .Name x p2] X.env = (false, eval e X.env) :: starEach [.Name x p2] X.env := by rfl) (hpl : (backTo pos (starEach [.Name x p2] X.env)).any (·.1) = false := by rfl)
    (hs2 : starEach [.Name x p2] X.env = [(false, eval (.Name x p2) X.env)] := by rfl) :
    SE X Wx (.Call (.Name "isinstance" p) [e, .Name x p2] [] pos) (mIsi T m) := by
  refine SE.mk fun pins s σ H σd hd g I k sr hx => PySem.wpAny_Call_Name_kw (ld_blt I hg hm PyProof.Rows.boot_isinstance (PyProof.Rows.callWith_builtin1 ?_ he hpl) (by decide) (by decide))
  have hA : PA X [e, .Name x p2] (tCons (tE X Wx m) (tCons (tC (.ty T)) tNil)) := pa_cons ha (pa_cons (pe_bltn hg2 hm2 hv2 rfl hn hdb) pa_nil hs2) he
  unfold mIsi at hx ⊢
  refine thn (hA.run pos pins s σ H (fun vs H' => ∃ w h1 v g', vs = [v, .ty T] ∧ m σd hd = .ok w h1 ∧ Ext H g H' g' ∧ Hr X.K X.tb H' g' h1 ∧ Rel X.K X.tb H' g' w v) I ⟨σd, hd, g, k, sr, hx.bind1, fun w h1 e v H' g' x' k' r' => ⟨w, h1, v, g', rfl, e, x', k', r'⟩⟩) fun us s1 ⟨vs, H1, I1, rvs, w, h1, v, g1, evs, e1, x1, k1, r1⟩ => ?_
  subst evs
  have hx1 := XOk.bind2 hx e1 x1
  cases e2 : tyW h1 w with
  | none => rw [e2] at hx1; exact hx1.elim
  | some t =>
    refine thn (call_isi pins s1 σ H1 _ us (fun v' H' => v' = .bl (isTy t T) ∧ H' = H1) I1 rvs ⟨v, .ty T, .type t, .type T, _, rfl, .ty T, tyW_ok k1 r1 e2, kit_all (tyW_mem e2) hT, rfl, rfl⟩) fun u s2 ⟨v', H', I2, rv, ev, eH⟩ => ?_
    subst ev eH
    refine ⟨.bl (isTy t T), h1, .bl (isTy t T), H', g1, ?_, I2, rv, x1, k1, .bl .nil⟩
    rw [e1]
    show (match tyW h1 w with | some t => _ | none => _) = _
    rw [e2]
end

/-! ## places and slices -/
def oIx : Op2 := fun x y h => match y with
  | .int i => match x with
    | .str z => if z.length ≤ 16777216 then (match atI z.cps.toList i with
      | some c => .ok (.str ⟨#[c]⟩) h
      | none => .bad) else .bad
    | x => match seqOf h x with
      | some xs => match atI xs i with
        | some w => .ok w h
        | none => .bad
      | none => .bad
  | _ => .bad
section
variable {X : Cx} {Wx : WX} {a b e : Expr} {ma mb me : Sg → Hd → R W} {pos : Pos}
theorem atI_rels {K : PySem.W.Frag} {tb : Addr → Prop} {H : Hp} {g : G} {ws : List W} {vs : List V} {i : Int} {w : W} (h : Rels K tb H g ws vs) (e : atI ws i = some w) : ∃ v, atI vs i = some v ∧ Rel K tb H g w v := by
  unfold atI at e ⊢
  rw [h.length] at e
  cases q : ixN vs.length i with
  | none => rw [q] at e; cases e
  | some j =>
    rw [q] at e
    exact h.get e
theorem s_ix (ha : SE X Wx a ma) (hb : SE X Wx b mb) (hs : PlainIx b := by exact fun _ _ => rfl) : SE X Wx (.Subscript a b pos) (mBin oIx ma mb) := by
  refine SE.mk fun pins s σ H σd hd g I hr sr hx => ?_
  unfold mBin at hx ⊢
  refine PyProof.Rows.Subscript_ (thn (ha.go I hr sr hx.bind1) fun v s1 ⟨w1, h1, x, H1, g1, e1, I1, rv1, x1, k1, r1⟩ => ?_)
  have hx1 := XOk.bind2 hx e1 x1
  refine thn (hb.go I1 k1 (sr.ext x1) hx1.bind1) fun u s2 ⟨w2, h2, y, H2, g2, e2, I2, rv2, x2, k2, r2⟩ => ?_
  have hx2 := XOk.bind2 hx1 e2 x2
  have ee : ((ma σd hd).bind fun x h1 => (mb σd h1).bind fun y h2 => oIx x y h2) = oIx w1 w2 h2 := by
    rw [e1]
    show (mb σd h1).bind _ = _
    rw [e2]
    rfl
  rw [ee]
  have r1' := x2.rels r1
  cases q : oIx w1 w2 h2 with
  | bad => rw [q] at hx2; exact hx2.elim
  | exc c h' =>
    unfold oIx at q
    repeat' split at q
    all_goals cases q
  | ok w hd' =>
    have fin : (∃ v', Rel X.K X.tb H2 g2 w v' ∧ hd' = h2 ∧ rIx X.K x y H2 (fun z H3 => z = v' ∧ H3 = H2)) := by
      unfold oIx at q
      split at q
      · split at q
        · split at q
          · split at q
            · cases q
              cases r1'; cases r2
              exact ⟨_, .str .nil, rfl, .inr (.inr ⟨_, _, _, rfl, rfl, Nat.le_trans ‹_› line_lit, ‹_›, rfl, rfl⟩)⟩
            · cases q
          · cases q
        · split at q
          · split at q
            · cases q
              cases r2
              obtain ⟨p, us, rfl, hq, t⟩ := seq_of k2 r1' ‹seqOf h2 w1 = some _›
              obtain ⟨v', e5, r5⟩ := atI_rels t ‹atI _ _ = some w›
              rcases hq with hq | hq
              · exact ⟨v', r5, rfl, .inl ⟨p, us, _, v', rfl, rfl, hq, e5, rfl, rfl⟩⟩
              · exact ⟨v', r5, rfl, .inr (.inl ⟨p, us, _, v', rfl, rfl, hq, e5, rfl, rfl⟩)⟩
            · cases q
          · cases q
      · cases q
    obtain ⟨v', r3, rfl, hq⟩ := fin
    refine thn (ix_seq a b pins s2 σ H2 x y v u _ I2 rv1 rv2 hq (hs _ _)) fun u3 s3 ⟨z, H3, I3, rv3, ez, eH⟩ => ?_
    subst ez eH
    exact ⟨w, hd', z, H3, g2, rfl, I3, rv3, x1.trans x2, k2, r3⟩
/-- an optional part of a slice -/
def mPart0 : Sg → Hd → R (Option Int) := fun _ h => .ok none h
def mPart (m : Sg → Hd → R W) : Sg → Hd → R (Option Int) := fun σ h => (m σ h).bind fun w h1 => match w with
  | .int i => .ok (some i) h1
  | _ => .bad
def tO (X : Cx) (Wx : WX) (m : Sg → Hd → R (Option Int)) : TO := fun σ H Q => ∃ σd hd g, Hr X.K X.tb H g hd ∧ Sr X.K X.tb H g σd σ ∧ XOk X Wx σ H g (m σd hd) ∧
  ∀ o hd', m σd hd = .ok o hd' → ∀ H' g', Ext H g H' g' → Hr X.K X.tb H' g' hd' → Q o H'
abbrev SO (X : Cx) (Wx : WX) (e : Option Expr) (m : Sg → Hd → R (Option Int)) : Prop := PO X e (tO X Wx m)
theorem o_none : SO X Wx none mPart0 := ⟨fun pins s σ H Q I ⟨σd, hd, g, k, sr, hx, q⟩ => po_none.run pins s σ H Q I (q none hd rfl H g (.refl _ _) k)⟩
theorem o_some (h : SE X Wx e me) : SO X Wx (some e) (mPart me) := by
  refine ⟨fun pins s σ H Q I ⟨σd, hd, g, k, sr, hx, q⟩ => (po_some h).run pins s σ H Q I ⟨σd, hd, g, k, sr, hx.bind1, fun w h1 e1 v H1 g1 x1 k1 r1 => ?_⟩⟩
  have hx1 := XOk.bind2 hx e1 x1
  cases w with
  | int i =>
    cases r1
    exact ⟨i, rfl, q (some i) h1 (by unfold mPart; rw [e1]; rfl) H1 g1 x1 k1⟩
  | _ => exact hx1.elim
def cutW (xs : List W) (lo hi : Option Int) : List W := (xs.drop (HT.sIx xs.length 0 lo)).take (HT.sIx xs.length xs.length hi - HT.sIx xs.length 0 lo)
def slW (x : W) (lo hi : Option Int) : Hd → R W := fun h => match x with
  | .tup xs => .ok (.tup (cutW xs lo hi)) h
  | .str z => if z.length ≤ 16777216 then .ok (.str (cutS z lo hi)) h else .bad
  | x => match lstOf h x with
    | some xs => .ok (.fl (cutW xs lo hi)) h
    | none => .bad
def mSl (me : Sg → Hd → R W) (ml mh : Sg → Hd → R (Option Int)) : Sg → Hd → R W := fun σ h => (me σ h).bind fun x h1 => (ml σ h1).bind fun lo h2 => (mh σ h2).bind fun hi h3 => slW x lo hi h3
theorem cut_rels {K : PySem.W.Frag} {tb : Addr → Prop} {H : Hp} {g : G} {ws : List W} {vs : List V} (h : Rels K tb H g ws vs) (lo hi : Option Int) : Rels K tb H g (cutW ws lo hi) (cutV vs lo hi) := by
  unfold cutW cutV
  rw [h.length]
  exact (h.drop _).take _
theorem sIx_le' (n d : Nat) (hd : d ≤ n) (o : Option Int) : HT.sIx n d o ≤ n := HT.sIx_le n d hd o
theorem cut_whole {ws : List W} {lo hi : Option Int} (h : HT.sIx ws.length 0 lo = 0 ∧ HT.sIx ws.length ws.length hi = ws.length) : cutW ws lo hi = ws := by
  unfold cutW
  rw [h.1, h.2]
  simp
theorem s_slice {lo hi : Option Expr} {ml mh : Sg → Hd → R (Option Int)} {p2 : Pos} (he : SE X Wx e me) (hl : SO X Wx lo ml) (hh : SO X Wx hi mh) : SE X Wx (.Subscript e (.Slice lo hi none p2) pos) (mSl me ml mh) := by
  refine ⟨fun pins s σ H Q I ⟨σd, hd, g, k, sr, hx, q⟩ => (pe_slice ((sl_tupA.or sl_list).or sl_str) he hl hh).run pins s σ H Q I ⟨σd, hd, g, k, sr, hx.bind1, fun w h1 e1 v H1 g1 x1 k1 r1 => ?_⟩⟩
  have hx1 := XOk.bind2 hx e1 x1
  refine ⟨σd, h1, g1, k1, sr.ext x1, hx1.bind1, fun l h2 e2 H2 g2 x2 k2 => ?_⟩
  have hx2 := XOk.bind2 hx1 e2 x2
  refine ⟨σd, h2, g2, k2, (sr.ext x1).ext x2, hx2.bind1, fun u h3 e3 H3 g3 x3 k3 => ?_⟩
  have hx3 := XOk.bind2 hx2 e3 x3
  have ee : mSl me ml mh σd hd = slW w l u h3 := by
    unfold mSl
    rw [e1]
    show (ml σd h1).bind _ = _
    rw [e2]
    show (mh σd h2).bind _ = _
    rw [e3]
    rfl
  have r3 := (x2.trans x3).rels r1
  have q3 : ∀ w' hd', slW w l u h3 = .ok w' hd' → ∀ v H' g', Ext H3 g3 H' g' → Hr X.K X.tb H' g' hd' → Rel X.K X.tb H' g' w' v → Q v H' := fun w' hd' e4 v H' g' x4 k4 r4 => q w' hd' (by rw [ee]; exact e4) v H' g' (((x1.trans x2).trans x3).trans x4) k4 r4
  have lists : ∀ {xs : List W}, lstOf h3 w = some xs → slW w l u h3 = .ok (.fl (cutW xs l u)) h3 → (rSlA X.K v l u H3 Q ∨ rSlL X.K v l u H3 Q) ∨ rSlS v l u H3 Q := fun {xs} e5 e6 => by
    obtain ⟨a, us, rfl, s5, t5⟩ := lst_of k3 r3 e5
    exact .inl (.inr ⟨a, us, rfl, s5, fun p hp => q3 _ _ e6 _ _ _ (Ext.newF k3 hp) (Hr.newF k3 hp) (.fl ⟨upd_same, .inr rfl⟩ ((Ext.newF k3 hp).rels (cut_rels t5 l u)) .nil)⟩)
  cases w with
  | tup xs =>
    cases r3 with
    | tup s5 t5 _ =>
      refine .inl (.inl ⟨_, _, rfl, s5, fun hw => ?_, fun _ p hp => ?_⟩)
      · rw [← t5.length] at hw
        refine q3 _ _ rfl _ _ _ (.refl _ _) k3 (.tup s5 ?_ .nil)
        rw [cut_whole hw]
        exact t5
      · exact q3 _ _ rfl _ _ _ (Ext.new k3 hp) (Hr.new k3 hp) (.tup (SqT.of upd_same) ((Ext.new k3 hp).rels (cut_rels t5 l u)) .nil)
  | str z =>
    unfold slW at hx3 q3
    dsimp only at hx3 q3
    split at hx3
    · rename_i hz
      rw [if_pos hz] at q3
      cases r3
      exact .inr ⟨z, rfl, Nat.le_trans hz line_lit, q3 _ _ rfl _ _ _ (.refl _ _) k3 (.str .nil)⟩
    · exact hx3.elim
  | fl xs => exact lists rfl rfl
  | scr xs => exact lists rfl rfl
  | ref l =>
    unfold slW at hx3
    dsimp only at hx3
    split at hx3
    · rename_i xs e5
      exact lists e5 (by unfold slW; dsimp only; rw [e5])
    · exact hx3.elim
  | _ => exact hx3.elim
end
end EV

set_option Elab.async false
set_option linter.all false
set_option maxRecDepth 100000
set_option maxHeartbeats 4000000
namespace EV
open PySem PySem.Spec L2

/-! ## statements -/
theorem PSwk {X : Cx} {st : Stmt} {t t' : TS} (h : PS X st t) (w : ∀ D σ H, t' D σ H → t D σ H) : PS X st t' := ⟨fun pins s σ H D I q => h.run pins s σ H D I (w D σ H q)⟩
theorem PSswk {X : Cx} {st : List Stmt} {t t' : TS} (h : PSs X st t) (w : ∀ D σ H, t' D σ H → t D σ H) : PSs X st t' := ⟨fun pins s σ H D I q => h.run pins s σ H D I (w D σ H q)⟩
theorem PGwk {X : Cx} {e : Expr} {t t' : TG} (h : PG X e t) (w : ∀ v σ H Q, t' v σ H Q → t v σ H Q) : PG X e t' := ⟨fun pins s σ H v u Q I r q => h.run pins s σ H v u Q I r (w v σ H Q q)⟩
theorem PGswk {X : Cx} {e : List Expr} {t t' : TGs} (h : PGs X e t) (w : ∀ v σ H Q, t' v σ H Q → t v σ H Q) : PGs X e t' := ⟨fun pins s σ H v u Q I r q => h.run pins s σ H v u Q I r (w v σ H Q q)⟩
def RS.thn (r : RS) (f : Sg → Hd → RS) : RS := match r with
  | .nx σ h => f σ h
  | r => r
def RS.tg (r : RS) (f : Sg → Hd → RS) : RS := match r with
  | .nx σ h => f σ h
  | .exc c σ h => .exc c σ h
  | _ => .bad
def RS.lp (r : RS) (f : Sg → Hd → RS) : RS := match r with
  | .nx σ h => f σ h
  | .ct σ h => f σ h
  | .bk σ h => .nx σ h
  | r => r
def R.st {α : Type} (r : R α) (σ : Sg) (f : α → Hd → RS) : RS := match r with
  | .ok a h => f a h
  | .exc c h => .exc c σ h
  | .bad => .bad
def OkS (X : Cx) (Wx : WX) (H : Hp) (g : G) (D : Ends) : RS → Prop
  | .nx σd hd => ∀ σ H' g', Ext H g H' g' → Hr X.K X.tb H' g' hd → Sr X.K X.tb H' g' σd σ → D.nx σ H'
  | .bk σd hd => ∀ σ H' g', Ext H g H' g' → Hr X.K X.tb H' g' hd → Sr X.K X.tb H' g' σd σ → D.bk σ H'
  | .ct σd hd => ∀ σ H' g', Ext H g H' g' → Hr X.K X.tb H' g' hd → Sr X.K X.tb H' g' σd σ → D.ct σ H'
  | .rt w hd => ∀ v H' g', Ext H g H' g' → Hr X.K X.tb H' g' hd → Rel X.K X.tb H' g' w v → D.rt v H'
  | .exc c σd hd => ∀ σ H' g', Ext H g H' g' → Hr X.K X.tb H' g' hd → Sr X.K X.tb H' g' σd σ → Wx (excV X.mg c) none σ H'
  | .bad => False
def tS (X : Cx) (Wx : WX) (m : Sg → Hd → RS) : TS := fun D σ H => ∃ σd hd g, Hr X.K X.tb H g hd ∧ Sr X.K X.tb H g σd σ ∧ OkS X Wx H g D (m σd hd)
abbrev SS (X : Cx) (Wx : WX) (st : Stmt) (m : Sg → Hd → RS) : Prop := PS X st (tS X Wx m)
abbrev SSs (X : Cx) (Wx : WX) (st : List Stmt) (m : Sg → Hd → RS) : Prop := PSs X st (tS X Wx m)
section
variable {X : Cx} {Wx : WX} {H H' : Hp} {g g' : G} {D : Ends} {σd : Sg} {hd : Hd} {σ : St}
theorem OkS.ext {r : RS} (h : OkS X Wx H g D r) (x : Ext H g H' g') : OkS X Wx H' g' D r := by
  cases r with
  | bad => exact h
  | _ => exact fun a H2 g2 x2 k2 r2 => h a H2 g2 (x.trans x2) k2 r2
theorem st_x {α : Type} {r : R α} {f : α → Hd → RS} (k : Hr X.K X.tb H g hd) (sr : Sr X.K X.tb H g σd σ) (o : OkS X Wx H g D (r.st σd f)) : XOk X Wx σ H g r := by
  cases r with
  | ok a h => trivial
  | exc c h => exact fun H' g' x k' => o σ H' g' x k' (sr.ext x)
  | bad => exact o
theorem st_o {α : Type} {r : R α} {f : α → Hd → RS} {a : α} {h1 : Hd} (o : OkS X Wx H g D (r.st σd f)) (e : r = .ok a h1) (x : Ext H g H' g') : OkS X Wx H' g' D (f a h1) := by
  subst e
  exact OkS.ext o x
theorem st_e {m : Sg → Hd → R W} {f : W → Hd → RS} {Q : VK} (k : Hr X.K X.tb H g hd) (sr : Sr X.K X.tb H g σd σ) (o : OkS X Wx H g D ((m σd hd).st σd f))
    (q : ∀ w h1 v H1 g1, Ext H g H1 g1 → Hr X.K X.tb H1 g1 h1 → Sr X.K X.tb H1 g1 σd σ → Rel X.K X.tb H1 g1 w v → OkS X Wx H1 g1 D (f w h1) → Q v H1) : tE X Wx m σ H Q :=
  ⟨σd, hd, g, k, sr, st_x k sr o, fun w h1 e v H1 g1 x k1 r1 => q w h1 v H1 g1 x k1 (sr.ext x) r1 (st_o o e x)⟩
theorem st_t {m : Sg → Hd → R Bool} {f : Bool → Hd → RS} {Q : Bool → Hp → Prop} (k : Hr X.K X.tb H g hd) (sr : Sr X.K X.tb H g σd σ) (o : OkS X Wx H g D ((m σd hd).st σd f))
    (q : ∀ w h1 H1 g1, Ext H g H1 g1 → Hr X.K X.tb H1 g1 h1 → Sr X.K X.tb H1 g1 σd σ → OkS X Wx H1 g1 D (f w h1) → Q w H1) : tT X Wx m σ H Q :=
  ⟨σd, hd, g, k, sr, st_x k sr o, fun w h1 e H1 g1 x k1 => q w h1 H1 g1 x k1 (sr.ext x) (st_o o e x)⟩
theorem st_a {m : Sg → Hd → R (List W)} {f : List W → Hd → RS} {Q : List V → Hp → Prop} (k : Hr X.K X.tb H g hd) (sr : Sr X.K X.tb H g σd σ) (o : OkS X Wx H g D ((m σd hd).st σd f))
    (q : ∀ w h1 v H1 g1, Ext H g H1 g1 → Hr X.K X.tb H1 g1 h1 → Sr X.K X.tb H1 g1 σd σ → Rels X.K X.tb H1 g1 w v → OkS X Wx H1 g1 D (f w h1) → Q v H1) : tA X Wx m σ H Q :=
  ⟨σd, hd, g, k, sr, st_x k sr o, fun w h1 e v H1 g1 x k1 r1 => q w h1 v H1 g1 x k1 (sr.ext x) r1 (st_o o e x)⟩
end

/-! ### small statements -/
def mNext : Sg → Hd → RS := fun σ h => .nx σ h
def mSeq (m n : Sg → Hd → RS) : Sg → Hd → RS := fun σ h => (m σ h).thn n
def mDrop (m : Sg → Hd → R W) : Sg → Hd → RS := fun σ h => (m σ h).st σ fun _ h1 => .nx σ h1
def mRet (m : Sg → Hd → R W) : Sg → Hd → RS := fun σ h => (m σ h).st σ fun w h1 => .rt w h1
def mRetN : Sg → Hd → RS := fun _ h => .rt .non h
def mIfS (c : Sg → Hd → R Bool) (m n : Sg → Hd → RS) : Sg → Hd → RS := fun σ h => (c σ h).st σ fun b h1 => if b = true then m σ h1 else n σ h1
def mBrk : Sg → Hd → RS := fun σ h => .bk σ h
def mCnt : Sg → Hd → RS := fun σ h => .ct σ h
section
variable {X : Cx} {Wx : WX} {st : Stmt} {rest p q : List Stmt} {e c : Expr} {pos : Pos} {m n : Sg → Hd → RS} {me : Sg → Hd → R W} {mc : Sg → Hd → R Bool}
theorem ss_nil : SSs X Wx [] mNext := PSswk pss_nil fun D σ H ⟨σd, hd, g, k, sr, o⟩ => o σ H g (.refl _ _) k sr
theorem ss_cons (h1 : SS X Wx st m) (h2 : SSs X Wx rest n) : SSs X Wx (st :: rest) (mSeq m n) := by
  refine PSswk (pss_cons h1 h2) fun D σ H ⟨σd, hd, g, k, sr, o⟩ => ⟨σd, hd, g, k, sr, ?_⟩
  unfold mSeq RS.thn at o
  split at o
  · rename_i σ1 h1 e
    rw [e]
    exact fun σ' H' g' x k' s' => ⟨σ1, h1, g', k', s', o.ext x⟩
  · rename_i hne
    cases e : m σd hd with
    | nx a b => exact absurd e (hne a b)
    | _ => rw [e] at o; exact o
theorem ss_one (h1 : SS X Wx st m) : SSs X Wx [st] m := pss_one h1
theorem s_pass : SS X Wx (.Pass pos) mNext := PSwk ps_pass fun D σ H ⟨σd, hd, g, k, sr, o⟩ => o σ H g (.refl _ _) k sr
theorem s_doc {x j pos pos'} : SS X Wx (.Expr (.Constant (.str x) j pos) pos') mNext := PSwk ps_doc fun D σ H ⟨σd, hd, g, k, sr, o⟩ => o σ H g (.refl _ _) k sr
theorem s_break : SS X Wx (.Break pos) mBrk := PSwk ps_break fun D σ H ⟨σd, hd, g, k, sr, o⟩ => o σ H g (.refl _ _) k sr
theorem s_continue : SS X Wx (.Continue pos) mCnt := PSwk ps_continue fun D σ H ⟨σd, hd, g, k, sr, o⟩ => o σ H g (.refl _ _) k sr
theorem s_retN : SS X Wx (.Return none pos) mRetN := PSwk ps_retN fun D σ H ⟨σd, hd, g, k, sr, o⟩ => o .non H g (.refl _ _) k (.non .nil)
theorem s_ret (h : SE X Wx e me) : SS X Wx (.Return (some e) pos) (mRet me) :=
  PSwk (ps_ret h) fun D σ H ⟨σd, hd, g, k, sr, o⟩ => st_e k sr o fun w h1 v H1 g1 x k1 s1 r1 o1 => o1 v H1 g1 (.refl _ _) k1 r1
theorem s_expr (h : SE X Wx e me) (hs : swapsWith e none pos.line X.env = pure false := by rfl) : SS X Wx (.Expr e pos) (mDrop me) :=
  PSwk (ps_expr h hs) fun D σ H ⟨σd, hd, g, k, sr, o⟩ => st_e k sr o fun w h1 v H1 g1 x k1 s1 r1 o1 => o1 σ H1 g1 (.refl _ _) k1 s1
theorem s_ifS (hc : ST X Wx c mc) (h1 : SSs X Wx p m) (h2 : SSs X Wx q n) : SS X Wx (.If c p q pos) (mIfS mc m n) := by
  refine PSwk (ps_if hc h1 h2) fun D σ H ⟨σd, hd, g, k, sr, o⟩ => st_t k sr o fun b h1 H1 g1 x k1 s1 o1 => ?_
  cases b with
  | true => exact ⟨σd, h1, g1, k1, s1, o1⟩
  | false => exact ⟨σd, h1, g1, k1, s1, o1⟩
/-- code that is never reached -/
def mBad : Sg → Hd → RS := fun _ _ => .bad
theorem s_never : SS X Wx st mBad := PSwk ps_never fun D σ H ⟨σd, hd, g, k, sr, o⟩ => o
end

/-! ### while -/
def mWhile (c : Sg → Hd → R Bool) (b : Sg → Hd → RS) : Nat → Sg → Hd → RS
  | 0, _, _ => .bad
  | n + 1, σ, h => (c σ h).st σ fun t h1 => if t = true then (b σ h1).lp (mWhile c b n) else .nx σ h1
section
variable {X : Cx} {Wx : WX} {body : List Stmt} {c : Expr} {pos : Pos} {mb : Sg → Hd → RS} {mc : Sg → Hd → R Bool}
theorem OkS.lp {H : Hp} {g : G} {D : Ends} {r : RS} {f : Sg → Hd → RS} (o : OkS X Wx H g D (r.lp f)) {N : St → Hp → Prop} (hN : ∀ σd hd, OkS X Wx H g D (f σd hd) → ∀ σ H' g', Ext H g H' g' → Hr X.K X.tb H' g' hd → Sr X.K X.tb H' g' σd σ → N σ H') :
    OkS X Wx H g { D with nx := N, ct := N, bk := D.nx } r := by
  cases r with
  | nx σd hd => exact fun σ H' g' x k s => hN σd hd o σ H' g' x k s
  | ct σd hd => exact fun σ H' g' x k s => hN σd hd o σ H' g' x k s
  | _ => exact o
theorem s_while (hp : PassesOwn (model X.prog X.w) X.A X.env X.xe) (hc : ST X Wx c mc) (hb : SSs X Wx body mb) (n : Nat) : SS X Wx (.While c body [] pos) (mWhile mc mb n) := by
  refine PSwk (ps_while hp hc hb) fun D σ H h => ⟨fun n σ H => tS X Wx (mWhile mc mb n) D σ H, ⟨n, h⟩, ?_⟩
  rintro n σ H ⟨σd, hd, g, k, sr, o⟩
  cases n with
  | zero => exact o.elim
  | succ n =>
    refine st_t k sr o fun b h1 H1 g1 x1 k1 s1 o1 => ?_
    cases b with
    | false => exact o1 σ H1 g1 (.refl _ _) k1 s1
    | true =>
      refine ⟨tS X Wx (mWhile mc mb n) D, fun σ' H' h => ⟨n, Nat.lt_succ_self n, h⟩, σd, h1, g1, k1, s1, ?_⟩
      exact OkS.lp o1 fun σ2 h2 o2 σ H' g' x k s => ⟨σ2, h2, g', k, s, o2.ext x⟩
end

/-! ### targets -/
def tGt (X : Cx) (Wx : WX) (m : W → Sg → Hd → RS) : TG := fun v σ H Q => ∃ w σd hd g, Hr X.K X.tb H g hd ∧ Sr X.K X.tb H g σd σ ∧ Rel X.K X.tb H g w v ∧ OkS X Wx H g { nx := Q, rt := fun _ _ => False } (m w σd hd)
def tGs (X : Cx) (Wx : WX) (m : List W → Sg → Hd → RS) : TGs := fun vs σ H Q => ∃ ws σd hd g, Hr X.K X.tb H g hd ∧ Sr X.K X.tb H g σd σ ∧ Rels X.K X.tb H g ws vs ∧ OkS X Wx H g { nx := Q, rt := fun _ _ => False } (m ws σd hd)
abbrev SG (X : Cx) (Wx : WX) (e : Expr) (m : W → Sg → Hd → RS) : Prop := PG X e (tGt X Wx m)
abbrev SGs (X : Cx) (Wx : WX) (es : List Expr) (m : List W → Sg → Hd → RS) : Prop := PGs X es (tGs X Wx m)
def gmN (i : Nat) : W → Sg → Hd → RS := fun w σ h => .nx (σ.set i (some w)) h
def gmNil : List W → Sg → Hd → RS := fun ws σ h => match ws with
  | [] => .nx σ h
  | _ => .bad
def gmCons (m : W → Sg → Hd → RS) (ms : List W → Sg → Hd → RS) : List W → Sg → Hd → RS := fun ws σ h => match ws with
  | w :: ws => (m w σ h).tg (ms ws)
  | _ => .bad
def gmTup (n : Nat) (ms : List W → Sg → Hd → RS) : W → Sg → Hd → RS := fun w σ h => match seqOf h w with
  | some xs => if xs.length = n then ms xs σ h else .bad
  | none => .bad
/-- o[i] = w -/
def setW (o i w : W) (h : Hd) : Option Hd := match o, i with
  | .ref l, .int j => match h[l]? with
    | some (.lst xs) => match ixN xs.length j with
      | some q => some (h.set l (.lst (xs.set q w)))
      | none => none
    | _ => none
  | _, _ => none
def gmSub (mo mi : Sg → Hd → R W) : W → Sg → Hd → RS := fun w σ h => (mo σ h).st σ fun o h1 => (mi σ h1).st σ fun i h2 => match setW o i w h2 with
  | some h3 => .nx σ h3
  | none => .bad
section
variable {X : Cx} {Wx : WX} {pos : Pos} {e o i : Expr} {es : List Expr} {mo mi : Sg → Hd → R W} {m : W → Sg → Hd → RS} {ms : List W → Sg → Hd → RS}
theorem OkS.tg {H : Hp} {g : G} {D : Ends} {r : RS} {f : Sg → Hd → RS} (ok : OkS X Wx H g D (r.tg f)) {N : St → Hp → Prop} (hN : ∀ σd hd, OkS X Wx H g D (f σd hd) → ∀ σ H' g', Ext H g H' g' → Hr X.K X.tb H' g' hd → Sr X.K X.tb H' g' σd σ → N σ H') :
    OkS X Wx H g { nx := N, rt := fun _ _ => False } r := by
  cases r with
  | nx σd hd => exact fun σ H' g' x k s => hN σd hd ok σ H' g' x k s
  | exc c σd hd => exact ok
  | _ => exact ok.elim
theorem g_name {i : Nat} {x : Str} (hN : X.N.Nodup) (hi : X.N[i]? = some x) (hx : Loc X.env.scope x) (hf : X.fn x = true ∨ X.env.scope.names.lookup x = some .local := by first | exact .inl rfl | exact .inr rfl | assumption) : SG X Wx (.Name x pos) (gmN i) :=
  PGwk (pg_name hN hi hx hf) fun v σ H Q ⟨w, σd, hd, g, k, sr, r, ok⟩ => ok _ H g (.refl _ _) k (sr.set i r)
theorem g_nil : SGs X Wx [] gmNil := PGswk pgs_nil fun vs σ H Q ⟨ws, σd, hd, g, k, sr, r, ok⟩ => by
  cases ws with
  | nil => cases r; exact ⟨rfl, ok σ H g (.refl _ _) k sr⟩
  | cons w ws => exact ok.elim
theorem g_cons (h1 : SG X Wx e m) (h2 : SGs X Wx es ms) (hs : (assignEach (e :: es) X.env).map (·.2) = assign e X.env :: (assignEach es X.env).map (·.2) := by rfl) : SGs X Wx (e :: es) (gmCons m ms) :=
  PGswk (pgs_cons h1 h2 hs) fun vs σ H Q ⟨ws, σd, hd, g, k, sr, r, ok⟩ => by
    cases ws with
    | nil => exact ok.elim
    | cons w ws =>
      obtain ⟨v, vr, rfl, r1, r2⟩ := r.uncons
      exact ⟨v, vr, rfl, w, σd, hd, g, k, sr, r1, OkS.tg ok fun σ1 h1 o1 σ' H' g' x k' s' => ⟨ws, σ1, h1, g', k', s', x.rels r2, o1.ext x⟩⟩
theorem g_tup {n kk : Nat} (hc : X.calm = true) (h : SGs X Wx es ms) (hn : (assignEach es X.env).length = n := by rfl) (hst : (assignEach es X.env).findIdx? (·.1) = none := by rfl) : SG X Wx (.Tuple es kk pos) (gmTup n ms) := by
  refine ⟨fun pins s σ H v u Q I rv ⟨w, σd, hd, g, k, sr, r, ok⟩ => ?_⟩
  cases q : seqOf hd w with
  | none => unfold gmTup at ok; rw [q] at ok; exact ok.elim
  | some xs =>
    unfold gmTup at ok
    rw [q] at ok
    dsimp only at ok
    split at ok
    · rename_i hl
      obtain ⟨a, us, rfl, hq, t⟩ := seq_of k r q
      have hl' : us.length = n := by rw [← t.length]; exact hl
      rcases hq with hq | hq
      · exact (pg_lst hc h hn hst).run pins s σ H _ u Q I rv ⟨a, us, rfl, hq, hl', xs, σd, hd, g, k, sr, t, ok⟩
      · exact (pg_tup hc h hn hst).run pins s σ H _ u Q I rv ⟨a, us, rfl, hq, hl', xs, σd, hd, g, k, sr, t, ok⟩
    · exact ok.elim
end
end EV

set_option Elab.async false
set_option linter.all false
set_option maxRecDepth 100000
set_option maxHeartbeats 4000000
namespace EV
open PySem PySem.Spec L2

/-! ## a change of a list -/
section
variable {K : PySem.W.Frag} {tb : Addr → Prop} {H H' : Hp} {g g' : G} {hd : Hd}
theorem Ext.write (k : Hr K tb H g hd) {l : Nat} {a : Addr} {o : HO} (hl : g.ρ[l]? = some a) (hm : ∀ xs, H a ≠ some (.tup xs)) (hz : ∀ o u, H a ≠ some (.frz o u)) (ht : ∀ ps, H a ≠ some (.tbl ps)) : Ext H g (upd H a o) g := by
  have ha := k.nf a (List.mem_of_getElem? hl)
  exact ⟨fun b xs e => by rw [upd_ne fun z => hm xs (by rw [← z]; exact e)]; exact e, fun b o u e => by rw [upd_ne fun z => hz o u (by rw [← z]; exact e)]; exact e,
    fun b ⟨ps, e, t⟩ => ⟨ps, by rw [upd_ne fun z => ht ps (by rw [← z]; exact e)]; exact e, t⟩, fun _ h => h, fun b h => upd_ne fun z => ha.2 (by rw [← z]; exact h), fun b h => ⟨h, upd_ne fun z => ha.1 (by rw [← z]; exact h)⟩, List.prefix_refl _⟩
theorem Hr.writeL (k : Hr K tb H g hd) {l : Nat} {a : Addr} {vs vs' : List V} {xs' : List W} (hl : g.ρ[l]? = some a) (e : H a = some (.lst vs)) (r : Rels K tb H g xs' vs') : Ext H g (upd H a (.lst vs')) g ∧ Hr K tb (upd H a (.lst vs')) g (hd.set l (.lst xs')) := by
  have hm : ∀ xs, H a ≠ some (.tup xs) := fun xs z => by rw [e] at z; cases z
  have hz : ∀ o u, H a ≠ some (.frz o u) := fun o u z => by rw [e] at z; cases z
  have ht : ∀ ps, H a ≠ some (.tbl ps) := fun ps z => by rw [e] at z; cases z
  exact k.write hl hm hz ht ⟨vs', upd_same, (Ext.write k hl hm hz ht).rels r⟩
theorem lref_of (k : Hr K tb H g hd) {l : Nat} {v : V} {xs : List W} (r : Rel K tb H g (.ref l) v) (e : hd[l]? = some (.lst xs)) : ∃ a us, v = .ref a ∧ g.ρ[l]? = some a ∧ H a = some (.lst us) ∧ Rels K tb H g xs us := by
  cases r with
  | ref hl _ =>
    obtain ⟨vs, h1, h2⟩ := k.obj _ _ _ hl e
    exact ⟨_, vs, rfl, hl, h1, h2⟩
end
theorem PSet.or {X : Cx} {t u : TSet} (h1 : PSet X t) (h2 : PSet X u) : PSet X (fun o i v H Q => t o i v H Q ∨ u o i v H Q) := by
  intro pins s σ H o i v ov iv w Q I r1 r2 r3 h
  rcases h with h | h
  · exact h1 pins s σ H o i v ov iv w Q I r1 r2 r3 h
  · exact h2 pins s σ H o i v ov iv w Q I r1 r2 r3 h
section
variable {X : Cx} {Wx : WX} {pos : Pos} {e o i tg : Expr} {es : List Expr} {me mo mi : Sg → Hd → R W} {m : W → Sg → Hd → RS} {ms : List W → Sg → Hd → RS} {ma : Sg → Hd → R (List W)}
theorem setW_ok {o i w : W} {h h3 : Hd} {H : Hp} {g : G} {ov iv v : V} (k : Hr X.K X.tb H g h) (r1 : Rel X.K X.tb H g o ov) (r2 : Rel X.K X.tb H g i iv) (r3 : Rel X.K X.tb H g w v) (e : setW o i w h = some h3) {Q : Hp → Prop}
    (q : ∀ H' g', Ext H g H' g' → Hr X.K X.tb H' g' h3 → Q H') : rSetL ov iv v H Q := by
  unfold setW at e
  split at e
  · split at e
    · split at e
      · cases e
        rename_i l j xs e1 qq e2
        obtain ⟨a, us, rfl, hl, h1, t⟩ := lref_of k r1 ‹_›
        cases r2
        obtain ⟨x, k'⟩ := k.writeL hl h1 (t.set _ r3)
        exact ⟨a, us, _, _, rfl, rfl, h1, by rw [← t.length]; exact e2, q _ _ x k'⟩
      · cases e
    · cases e
  · cases e
theorem g_sub (ho : SE X Wx o mo) (hi : SE X Wx i mi)
    (ha : ∀ v, assign (.Subscript o i pos) X.env v = (do
      let ov ← holding [v] (eval o X.env)
      let iv ← holding [v, ov] (eval i X.env)
      standAt pos
      holding [v, ov, iv] (setItem ov iv v)
      release [v, ov, iv] []) := by intro _; rfl) : SG X Wx (.Subscript o i pos) (gmSub mo mi) :=
  PGwk (pg_sub ho hi set_list ha) fun v σ H Q ⟨w, σd, hd, g, k, sr, r, ok⟩ => st_e k sr ok fun ov h1 o1 H1 g1 x1 k1 s1 r1 ok1 => st_e k1 s1 ok1 fun iv h2 i2 H2 g2 x2 k2 s2 r2 ok2 => by
    cases q : setW ov iv w h2 with
    | none => rw [q] at ok2; exact ok2.elim
    | some h3 =>
      rw [q] at ok2
      exact setW_ok k2 (x2.rels r1) r2 ((x1.trans x2).rels r) q fun H' g' x k' => ok2 σ H' g' x k' (s2.ext x)

/-! ## assignments -/
def mAsg (me : Sg → Hd → R W) (gm : W → Sg → Hd → RS) : Sg → Hd → RS := fun σ h => (me σ h).st σ fun w h1 => (gm w σ h1).tg fun σ2 h2 => .nx σ2 h2
theorem s_asg (he : SE X Wx e me) (hg : SG X Wx tg m) (hs : swapsWithSole [tg] e pos.line X.env = pure false := by rfl) (hw : swappedStores [tg] e X.env = pure none := by rfl)
    (h1 : (assignEach [tg] X.env).map (·.2) = [assign tg X.env] := by rfl) : SS X Wx (.Assign [tg] e pos) (mAsg me m) :=
  PSwk (ps_asg he hg hs hw h1) fun D σ H ⟨σd, hd, g, k, sr, ok⟩ => st_e k sr ok fun w h1 v H1 g1 x1 k1 s1 r1 ok1 => ⟨w, σd, h1, g1, k1, s1, r1, OkS.tg ok1 fun σ2 h2 o2 σ' H' g' x k' s' => o2 σ' H' g' x k' s'⟩
def mSet (i : Nat) (me : Sg → Hd → R W) : Sg → Hd → RS := fun σ h => (me σ h).st σ fun w h1 => .nx (σ.set i (some w)) h1
theorem s_set {i : Nat} {x : Str} {pos' : Pos} (hN : X.N.Nodup) (hi : X.N[i]? = some x) (hx : Loc X.env.scope x) (he : SE X Wx e me) (hs : swapsWith e (some (.Name x pos')) pos.line X.env = pure false := by rfl) (hf : X.fn x = true ∨ X.env.scope.names.lookup x = some .local := by first | exact .inl rfl | exact .inr rfl | assumption) :
    SS X Wx (.Assign [.Name x pos'] e pos) (mSet i me) :=
  PSwk (ps_set hN hi hx he hs hf) fun D σ H ⟨σd, hd, g, k, sr, ok⟩ => st_e k sr ok fun w h1 v H1 g1 x1 k1 s1 r1 ok1 => ok1 _ H1 g1 (.refl _ _) k1 (s1.set i r1)
def mPar (i j : Nat) (ma : Sg → Hd → R (List W)) : Sg → Hd → RS := fun σ h => (ma σ h).st σ fun ws h1 => match ws with
  | [x, y] => .nx ((σ.set i (some x)).set j (some y)) h1
  | _ => .bad
theorem s_par {i j : Nat} {x y : Str} {a b : Expr} {px py pt : Pos} {kt k2 pt2} (hc : X.calm = true) (hN : X.N.Nodup) (hi : X.N[i]? = some x) (hj : X.N[j]? = some y) (hij : i ≠ j)
    (hx : X.env.scope.names.lookup x = some .local) (hy : X.env.scope.names.lookup y = some .local) (ha : SA X Wx [a, b] ma)
    (hw : swappedStores [.Tuple [.Name x px, .Name y py] kt pt] (.Tuple [a, b] k2 pt2) X.env = pure (some [x, y]))
    (hs : swapsWithSole [.Tuple [.Name x px, .Name y py] kt pt] (.Tuple [a, b] k2 pt2) pos.line X.env = pure false := by rfl) :
    SS X Wx (.Assign [.Tuple [.Name x px, .Name y py] kt pt] (.Tuple [a, b] k2 pt2) pos) (mPar i j ma) :=
  PSwk (ps_par hc hN hi hj hij hx hy ha hw hs) fun D σ H ⟨σd, hd, g, k, sr, ok⟩ => st_a k sr ok fun ws h1 vs H1 g1 x1 k1 s1 r1 ok1 => by
    split at ok1
    · obtain ⟨v, vr, rfl, r2, r3⟩ := r1.uncons
      obtain ⟨v2, rfl, r3⟩ := rels1 r3
      exact ⟨v, v2, rfl, ok1 _ H1 g1 (.refl _ _) k1 ((s1.set i r2).set j r3)⟩
    · exact ok1.elim
def mPar3 (i j l : Nat) (ma : Sg → Hd → R (List W)) : Sg → Hd → RS := fun σ h => (ma σ h).st σ fun ws h1 => match ws with
  | [x, y, z] => .nx (((σ.set i (some x)).set j (some y)).set l (some z)) h1
  | _ => .bad
theorem s_par3 {i j l : Nat} {x y z : Str} {a b c : Expr} {px py pz pt pos : Pos} {kt k2 pt2} (hc : X.calm = true) (hN : X.N.Nodup) (hi : X.N[i]? = some x) (hj : X.N[j]? = some y) (hl : X.N[l]? = some z) (hij : i ≠ j) (hil : i ≠ l) (hjl : j ≠ l)
    (hx : X.env.scope.names.lookup x = some .local) (hy : X.env.scope.names.lookup y = some .local) (hz : X.env.scope.names.lookup z = some .local) (ha : SA X Wx [a, b, c] ma)
    (hw : swappedStores [.Tuple [.Name x px, .Name y py, .Name z pz] kt pt] (.Tuple [a, b, c] k2 pt2) X.env = pure (some [x, y, z]))
    (hs : swapsWithSole [.Tuple [.Name x px, .Name y py, .Name z pz] kt pt] (.Tuple [a, b, c] k2 pt2) pos.line X.env = pure false := by rfl) :
    SS X Wx (.Assign [.Tuple [.Name x px, .Name y py, .Name z pz] kt pt] (.Tuple [a, b, c] k2 pt2) pos) (mPar3 i j l ma) :=
  PSwk (ps_par3 hc hN hi hj hl hij hil hjl hx hy hz ha hw hs) fun D σ H ⟨σd, hd, g, k, sr, ok⟩ => st_a k sr ok fun ws h1 vs H1 g1 x1 k1 s1 r1 ok1 => by
    split at ok1
    · obtain ⟨v, vr, rfl, r2, r3⟩ := r1.uncons
      obtain ⟨v2, vr2, rfl, r4, r5⟩ := r3.uncons
      obtain ⟨v3, rfl, r6⟩ := rels1 r5
      exact ⟨v, v2, v3, rfl, ok1 _ H1 g1 (.refl _ _) k1 (((s1.set i r2).set j r4).set l r6)⟩
    · exact ok1.elim
/-- x += e, x -= e of ints; x += e of lists is not here -/
def oAddI : Op2 := fun x y h => match x, y with
  | .int i, .int j => .ok (.int (i + j)) h
  | _, _ => .bad
def mAug (i : Nat) (op : Op2) (me : Sg → Hd → R W) : Sg → Hd → RS := fun σ h => match σ[i]? with
  | some (some x) => (me σ h).st σ fun y h1 => (op x y h1).st σ fun z h2 => .nx (σ.set i (some z)) h2
  | _ => .bad
def IpS (X : Cx) (op : Operator) (o : Op2) : Prop := ∃ t, PIp X op t ∧ (∀ w1 w2 hd c h', o w1 w2 hd ≠ .exc c h') ∧ ∀ (H : Hp) (g : G) (hd : Hd) (x y : V) (w1 w2 w : W) (hd' : Hd) (Q : VK), Hr X.K X.tb H g hd → Rel X.K X.tb H g w1 x → Rel X.K X.tb H g w2 y → o w1 w2 hd = .ok w hd' →
  (∀ v H' g', Ext H g H' g' → Hr X.K X.tb H' g' hd' → Rel X.K X.tb H' g' w v → Q v H') → t x y H Q
theorem ipAdd_ok : IpS X .Add oAddI := by
  refine ⟨_, ip_add, fun w1 w2 hd c h' e => ?_, fun H g hd x y w1 w2 w hd' Q k r1 r2 e q => ?_⟩
  · unfold oAddI at e
    split at e <;> cases e
  · unfold oAddI at e
    split at e
    · cases e; cases r1; cases r2
      exact ⟨_, _, rfl, rfl, q _ _ _ (.refl _ _) k (.int .nil)⟩
    · cases e
theorem ipSub_ok : IpS X .Sub oSub := by
  refine ⟨_, ip_sub, fun w1 w2 hd c h' e => ?_, fun H g hd x y w1 w2 w hd' Q k r1 r2 e q => ?_⟩
  · unfold oSub at e
    split at e <;> cases e
  · unfold oSub at e
    split at e
    · cases e; cases r1; cases r2
      exact ⟨_, _, rfl, rfl, q _ _ _ (.refl _ _) k (.int .nil)⟩
    · cases e
theorem s_aug {i : Nat} {x : Str} {op : Operator} {o : Op2} {pos' : Pos} (hN : X.N.Nodup) (hi : X.N[i]? = some x) (hx : Loc X.env.scope x) (he : SE X Wx e me) (ho : IpS X op o) (hf : X.fn x = true ∨ X.env.scope.names.lookup x = some .local := by first | exact .inl rfl | exact .inr rfl | assumption) :
    SS X Wx (.AugAssign (.Name x pos') op e pos) (mAug i o me) := by
  obtain ⟨t, hp, hnx, hop⟩ := ho
  refine PSwk (ps_aug hN hi hx he hp hf) fun D σ H ⟨σd, hd, g, k, sr, ok⟩ => ?_
  unfold mAug at ok
  split at ok
  · rename_i w ew
    obtain ⟨v, ev, r⟩ := sr.at_ i w ew
    refine ⟨v, ev, st_e k sr ok fun y h1 yv H1 g1 x1 k1 s1 r1 ok1 => ?_⟩
    cases q : o w y h1 with
    | bad => rw [q] at ok1; exact ok1.elim
    | exc c h' => exact (hnx _ _ _ _ _ q).elim
    | ok z h2 =>
      rw [q] at ok1
      exact hop H1 g1 h1 v yv w y z h2 _ k1 (x1.rels r) r1 q fun zv H' g' x' k' r' => ok1 _ H' g' x' k' ((s1.ext x').set i r')
  · exact ok.elim
end

/-! ## what a loop walks -/
inductive Iw where
  | sq (ws : List W) | lv (l : Nat)
def itAt (hd : Hd) : Iw → Option (List W)
  | .sq ws => some ws
  | .lv l => match hd[l]? with
    | some (.lst xs) => some xs
    | _ => none
def ItR (K : PySem.W.Frag) (tb : Addr → Prop) (H : Hp) (g : G) (it : Iw) (J : It) : Prop :=
  ∀ H' g' hd ws, ExtW H g H' g' → Hr K tb H' g' hd → itAt hd it = some ws → ∀ i,
    (ws.length ≤ i → J.stop i H') ∧ ∀ w, ws[i]? = some w → J.go i H' ∧ ∀ x H2, J.yld i H' x H2 → ∃ g2, Ext H' g' H2 g2 ∧ Hr K tb H2 g2 hd ∧ Rel K tb H2 g2 w x
theorem ItR.ext {K : PySem.W.Frag} {tb : Addr → Prop} {H H' : Hp} {g g' : G} {it : Iw} {J : It} (h : ItR K tb H g it J) (x : Ext H g H' g') : ItR K tb H' g' it J := fun H2 g2 hd ws x2 => h H2 g2 hd ws (x.w.trans x2)
def tI (X : Cx) (Wx : WX) (m : Sg → Hd → R Iw) : TI := fun σ H R => ∃ σd hd g, Hr X.K X.tb H g hd ∧ Sr X.K X.tb H g σd σ ∧ XOk X Wx σ H g (m σd hd) ∧
  ∀ it hd', m σd hd = .ok it hd' → ∀ J H' g', Ext H g H' g' → Hr X.K X.tb H' g' hd' → ItR X.K X.tb H' g' it J → R J H'
abbrev SI (X : Cx) (Wx : WX) (tg e : Expr) (m : Sg → Hd → R Iw) : Prop := PI X tg e (tI X Wx m)
theorem PIwk {X : Cx} {tg e : Expr} {t t' : TI} (h : PI X tg e t) (w : ∀ σ H R, t' σ H R → t σ H R) : PI X tg e t' := ⟨fun pins s σ H R I q => h.run pins s σ H R I (w σ H R q)⟩
/-- a list or a tuple -/
def mIt (m : Sg → Hd → R W) : Sg → Hd → R Iw := fun σ h => (m σ h).bind fun w h1 => match w with
  | .ref l => match h1[l]? with
    | some (.lst _) => .ok (.lv l) h1
    | _ => .bad
  | w => match seqOf h1 w with
    | some xs => .ok (.sq xs) h1
    | none => .bad
def mRng1 (m : Sg → Hd → R (List W)) : Sg → Hd → R Iw := fun σ h => (m σ h).bind fun ws h1 => match ws with
  | [.int j] => if -(2 ^ 62) ≤ j ∧ j < 2 ^ 62 then .ok (.sq ((List.range j.toNat).map fun (k : Nat) => W.int k)) h1 else .bad
  | _ => .bad
def mRng2 (m : Sg → Hd → R (List W)) : Sg → Hd → R Iw := fun σ h => (m σ h).bind fun ws h1 => match ws with
  | [.int i, .int j] => if (-(2 ^ 62) ≤ i ∧ i < 2 ^ 62) ∧ -(2 ^ 62) ≤ j ∧ j < 2 ^ 62 then .ok (.sq ((List.range (j - i).toNat).map fun (k : Nat) => W.int (i + k))) h1 else .bad
  | _ => .bad
section
variable {X : Cx} {Wx : WX} {tg e a b : Expr} {me : Sg → Hd → R W} {ma : Sg → Hd → R (List W)} {p pos : Pos}
variable {K : PySem.W.Frag} {tb : Addr → Prop} {H : Hp} {g : G}
theorem itR_tup {a : Addr} {us : List V} {xs : List W} (s : SqT K H a us) (t : Rels K tb H g xs us) : ItR K tb H g (.sq xs) (Itt K a) := by
  intro H' g' hd ws x k e i
  cases e
  have s' := x.sqT s
  have t' := x.rels t
  refine ⟨fun h => ⟨us, s', by rw [← t'.length]; exact h⟩, fun w ew => ?_⟩
  obtain ⟨v, ev, r⟩ := t'.get ew
  refine ⟨⟨us, v, s', ev⟩, ?_⟩
  rintro x2 H2 ⟨rfl, hy⟩
  have := hy us s'
  rw [ev] at this
  cases this
  exact ⟨g', .refl _ _, k, r⟩
theorem itR_lst {a : Addr} {us : List V} {xs : List W} (s : ∀ H' g', ExtW H g H' g' → SqL K H' a us) (t : Rels K tb H g xs us) : ItR K tb H g (.sq xs) (Itl K a) := by
  intro H' g' hd ws x k e i
  cases e
  have s' := s _ _ x
  have t' := x.rels t
  refine ⟨fun h => ⟨us, s', by rw [← t'.length]; exact h⟩, fun w ew => ?_⟩
  obtain ⟨v, ev, r⟩ := t'.get ew
  refine ⟨⟨us, v, s', ev⟩, ?_⟩
  rintro x2 H2 ⟨rfl, hy⟩
  have := hy us s'
  rw [ev] at this
  cases this
  exact ⟨g', .refl _ _, k, r⟩
theorem itR_live {a : Addr} {l : Nat} (hl : g.ρ[l]? = some a) : ItR K tb H g (.lv l) (Itl K a) := by
  intro H' g' hd ws x k e i
  unfold itAt at e
  dsimp only at e
  split at e
  · rename_i xs q
    cases e
    obtain ⟨us, h1, t⟩ := k.obj _ _ _ (pre_get x.pre hl) q
    have s' : SqL K H' a us := SqL.of h1
    refine ⟨fun h => ⟨us, s', by rw [← t.length]; exact h⟩, fun w ew => ?_⟩
    obtain ⟨v, ev, r⟩ := t.get ew
    refine ⟨⟨us, v, s', ev⟩, ?_⟩
    rintro x2 H2 ⟨rfl, hy⟩
    have := hy us s'
    rw [ev] at this
    cases this
    exact ⟨g', .refl _ _, k, r⟩
  · cases e
theorem ti_e {m : W → Hd → R Iw} {σd : Sg} {hd : Hd} {σ : St} {Q : VK} {R : It → Hp → Prop} (k : Hr X.K X.tb H g hd) (sr : Sr X.K X.tb H g σd σ) (hx : XOk X Wx σ H g ((me σd hd).bind m))
    (q : ∀ it hd', (me σd hd).bind m = .ok it hd' → ∀ J H' g', Ext H g H' g' → Hr X.K X.tb H' g' hd' → ItR X.K X.tb H' g' it J → R J H')
    (h : ∀ w h1 v H1 g1, Hr X.K X.tb H1 g1 h1 → Rel X.K X.tb H1 g1 w v → XOk X Wx σ H1 g1 (m w h1) → (∀ it hd', m w h1 = .ok it hd' → ∀ J H' g', Ext H1 g1 H' g' → Hr X.K X.tb H' g' hd' → ItR X.K X.tb H' g' it J → R J H') → Q v H1) : tE X Wx me σ H Q :=
  ⟨σd, hd, g, k, sr, hx.bind1, fun w h1 e1 v H1 g1 x1 k1 r1 => h w h1 v H1 g1 k1 r1 (XOk.bind2 hx e1 x1) fun it hd' e2 J H' g' x2 => q it hd' (by rw [e1]; exact e2) J H' g' (x1.trans x2)⟩
theorem ti_a {m : List W → Hd → R Iw} {σd : Sg} {hd : Hd} {σ : St} {Q : List V → Hp → Prop} {R : It → Hp → Prop} (k : Hr X.K X.tb H g hd) (sr : Sr X.K X.tb H g σd σ) (hx : XOk X Wx σ H g ((ma σd hd).bind m))
    (q : ∀ it hd', (ma σd hd).bind m = .ok it hd' → ∀ J H' g', Ext H g H' g' → Hr X.K X.tb H' g' hd' → ItR X.K X.tb H' g' it J → R J H')
    (h : ∀ w h1 v H1 g1, Hr X.K X.tb H1 g1 h1 → Rels X.K X.tb H1 g1 w v → XOk X Wx σ H1 g1 (m w h1) → (∀ it hd', m w h1 = .ok it hd' → ∀ J H' g', Ext H1 g1 H' g' → Hr X.K X.tb H' g' hd' → ItR X.K X.tb H' g' it J → R J H') → Q v H1) : tA X Wx ma σ H Q :=
  ⟨σd, hd, g, k, sr, hx.bind1, fun w h1 e1 v H1 g1 x1 k1 r1 => h w h1 v H1 g1 k1 r1 (XOk.bind2 hx e1 x1) fun it hd' e2 J H' g' x2 => q it hd' (by rw [e1]; exact e2) J H' g' (x1.trans x2)⟩
def seqIt (w : W) (h1 : Hd) : R Iw := match w with
  | .ref l => match h1[l]? with
    | some (.lst _) => .ok (.lv l) h1
    | _ => .bad
  | w => match seqOf h1 w with
    | some xs => .ok (.sq xs) h1
    | none => .bad
theorem mIt_eq (me : Sg → Hd → R W) (σ : Sg) (h : Hd) : mIt me σ h = (me σ h).bind seqIt := rfl
theorem seqIt_ok {w : W} {h1 hd' : Hd} {it : Iw} {v : V} (k : Hr K tb H g h1) (r : Rel K tb H g w v) (e : seqIt w h1 = .ok it hd') : hd' = h1 ∧ ∃ a, v = .ref a ∧
    (((∀ xs, w ≠ .tup xs) ∧ (∃ us, SqL K H a us) ∧ ItR K tb H g it (Itl K a)) ∨ ((∃ xs, w = .tup xs) ∧ (∃ us, SqT K H a us) ∧ ItR K tb H g it (Itt K a))) := by
  cases w with
  | tup xs =>
    cases e
    cases r with
    | tup s t _ => exact ⟨rfl, _, rfl, .inr ⟨⟨_, rfl⟩, ⟨_, s⟩, itR_tup s t⟩⟩
  | fl xs =>
    cases e
    cases r with
    | fl s t _ => exact ⟨rfl, _, rfl, .inl ⟨fun _ z => (nomatch z), ⟨_, SqL.of s.1⟩, itR_lst (fun H' g' x => SqL.of (x.flAt s).1) t⟩⟩
  | scr xs =>
    cases e
    cases r with
    | scr s t _ => exact ⟨rfl, _, rfl, .inl ⟨fun _ z => (nomatch z), ⟨_, s.sq⟩, itR_lst (fun H' g' x => (x.scAt s).sq) t⟩⟩
  | ref l =>
    unfold seqIt at e
    dsimp only at e
    split at e
    · rename_i xs q
      cases e
      obtain ⟨a, us, rfl, hl, h2, t⟩ := lref_of k r q
      exact ⟨rfl, a, rfl, .inl ⟨fun _ z => (nomatch z), ⟨us, SqL.of h2⟩, itR_live hl⟩⟩
    · cases e
  | _ => cases e
theorem seqIt_x {w : W} {h1 : Hd} {σ : St} (hx : XOk X Wx σ H g (seqIt w h1)) : ∃ it, seqIt w h1 = .ok it h1 := by
  cases e : seqIt w h1 with
  | ok it h2 =>
    unfold seqIt at e
    repeat' split at e
    all_goals first
      | cases e
      | skip
    all_goals exact ⟨_, rfl⟩
  | exc c h2 =>
    unfold seqIt at e
    repeat' split at e
    all_goals cases e
  | bad => rw [e] at hx; exact hx.elim
/-- walked: a list or a tuple -/
theorem i_seq (he : SE X Wx e me) : SI X Wx tg e (mIt me) := by
  refine ⟨fun pins s σ H Z I ⟨σd, hd, g, k, sr, hx, q⟩ => ?_⟩
  have isT : (∃ xs h1, me σd hd = .ok (.tup xs) h1) ∨ ∀ xs h1, me σd hd ≠ .ok (.tup xs) h1 := by
    cases me σd hd with
    | ok w h1 =>
      cases w with
      | tup xs => exact .inl ⟨xs, h1, rfl⟩
      | _ => exact .inr fun _ _ z => (nomatch z)
    | _ => exact .inr fun _ _ z => (nomatch z)
  rw [mIt_eq] at hx q
  rcases isT with ⟨xs, h1, e1⟩ | hne
  · refine (pi_tup he).run pins s σ H Z I ⟨σd, hd, g, k, sr, hx.bind1, fun w h2 e2 v H1 g1 x1 k1 r1 => ?_⟩
    obtain ⟨it, e3⟩ := seqIt_x (XOk.bind2 hx e2 x1)
    rw [e1] at e2
    cases e2
    obtain ⟨_, a, rfl, ⟨z, _⟩ | ⟨_, ht, ir⟩⟩ := seqIt_ok k1 r1 e3
    · exact absurd rfl (z _)
    · exact ⟨a, rfl, ht, q it h1 (by rw [e1]; exact e3) _ _ _ x1 k1 ir⟩
  · refine (pi_list he).run pins s σ H Z I ⟨σd, hd, g, k, sr, hx.bind1, fun w h2 e2 v H1 g1 x1 k1 r1 => ?_⟩
    obtain ⟨it, e3⟩ := seqIt_x (XOk.bind2 hx e2 x1)
    obtain ⟨_, a, rfl, ⟨_, ht, ir⟩ | ⟨⟨xs, rfl⟩, _⟩⟩ := seqIt_ok k1 r1 e3
    · exact ⟨a, rfl, ht, q it h2 (by rw [e2]; exact e3) _ _ _ x1 k1 ir⟩
    · exact absurd e2 (hne xs h2)
theorem itR_rng {lo : Int} {n : Nat} : ItR K tb H g (.sq ((List.range n).map fun (k : Nat) => W.int (lo + k))) (Itr lo n) := by
  intro H' g' hd ws x k e i
  cases e
  refine ⟨fun h => (by simpa using h : n ≤ i), fun w ew => ?_⟩
  have hi : i < n := by
    have := (List.getElem?_eq_some_iff.mp ew).1
    simpa using this
  have e2 : w = W.int (lo + i) := by
    rw [List.getElem?_map, List.getElem?_range hi] at ew
    exact (Option.some.inj ew).symm
  subst e2
  refine ⟨hi, ?_⟩
  rintro x2 H2 ⟨rfl, rfl⟩
  exact ⟨g', .refl _ _, k, .int .nil⟩
theorem i_rng1 (hg : Gl X "range") (hm : X.mg "range" = none) (ha : SA X Wx [a] ma) (hs : starEach [a] X.env = [(false, eval a X.env)] := by rfl) : SI X Wx tg (.Call (.Name "range" p) [a] [] pos) (mRng1 ma) := by
  refine PIwk (pi_range1 hg hm ha hs) fun σ H Z ⟨σd, hd, g, k, sr, hx, q⟩ => ti_a k sr hx q fun w h1 v H1 g1 k1 r1 hx1 q1 => ?_
  split at hx1
  · split at hx1
    · rename_i j hj
      obtain ⟨v', rfl, r2⟩ := rels1 r1
      cases r2
      simp only [if_pos hj] at q1
      refine ⟨j, rfl, hj.1, hj.2, q1 _ _ rfl _ _ _ (.refl _ _) k1 ?_⟩
      have := itR_rng (K := X.K) (tb := X.tb) (H := H1) (g := g1) (lo := 0) (n := j.toNat)
      simpa using this
    · exact hx1.elim
  · exact hx1.elim
theorem i_rng2 (hg : Gl X "range") (hm : X.mg "range" = none) (ha : SA X Wx [a, b] ma) (hs : starEach [a, b] X.env = [(false, eval a X.env), (false, eval b X.env)] := by rfl) (hs2 : starEach [b] X.env = [(false, eval b X.env)] := by rfl) : SI X Wx tg (.Call (.Name "range" p) [a, b] [] pos) (mRng2 ma) := by
  refine PIwk (pi_range2 hg hm ha hs hs2) fun σ H Z ⟨σd, hd, g, k, sr, hx, q⟩ => ti_a k sr hx q fun w h1 v H1 g1 k1 r1 hx1 q1 => ?_
  split at hx1
  · split at hx1
    · rename_i i j hj
      obtain ⟨v', vr, rfl, r2, r3⟩ := r1.uncons
      obtain ⟨v2, rfl, r3⟩ := rels1 r3
      cases r2
      cases r3
      simp only [if_pos hj] at q1
      exact ⟨i, j, rfl, ⟨hj.1.1, hj.1.2, hj.2.1, hj.2.2⟩, q1 _ _ rfl _ _ _ (.refl _ _) k1 itR_rng⟩
    · exact hx1.elim
  · exact hx1.elim
end

/-! ### for -/
def forL (gm : W → Sg → Hd → RS) (b : Sg → Hd → RS) : List W → Sg → Hd → RS
  | [], σ, h => .nx σ h
  | x :: xs, σ, h => ((gm x σ h).tg b).lp (forL gm b xs)
def forV (gm : W → Sg → Hd → RS) (b : Sg → Hd → RS) (l : Nat) : Nat → Nat → Sg → Hd → RS
  | 0, _, _, _ => .bad
  | n + 1, i, σ, h => match h[l]? with
    | some (.lst xs) => match xs[i]? with
      | some x => ((gm x σ h).tg b).lp (forV gm b l n (i + 1))
      | none => .nx σ h
    | _ => .bad
def mFor (mi : Sg → Hd → R Iw) (gm : W → Sg → Hd → RS) (b : Sg → Hd → RS) : Sg → Hd → RS := fun σ h => (mi σ h).st σ fun it h1 => match it with
  | .sq ws => forL gm b ws σ h1
  | .lv l => forV gm b l 1099511627776 0 σ h1
section
variable {X : Cx} {Wx : WX} {tg e : Expr} {mi : Sg → Hd → R Iw} {gm : W → Sg → Hd → RS} {b : Sg → Hd → RS} {body : List Stmt} {pos : Pos}
theorem OkS.step {H : Hp} {g : G} {D : Ends} {r : RS} {f : Sg → Hd → RS} (ok : OkS X Wx H g D ((r.tg b).lp f)) {N : St → Hp → Prop} (hN : ∀ σd hd, OkS X Wx H g D (f σd hd) → ∀ σ H' g', Ext H g H' g' → Hr X.K X.tb H' g' hd → Sr X.K X.tb H' g' σd σ → N σ H') :
    OkS X Wx H g { nx := fun σ H' => tS X Wx b { D with nx := N, ct := N, bk := D.nx } σ H', rt := fun _ _ => False } r := by
  cases r with
  | nx σd hd => exact fun σ H' g' x k s => ⟨σd, hd, g', k, s, (OkS.lp ok hN).ext x⟩
  | exc c σd hd => exact ok
  | _ => exact ok.elim
theorem s_for (hp : PassesOwn (model X.prog X.w) X.A X.env X.xe) (hc : X.calm = true) (hi : SI X Wx tg e mi) (hg : SG X Wx tg gm) (hb : SSs X Wx body b)
    (hs : ∀ x, foldedSetIterable e X.env x = pure x := by intro _; rfl) : SS X Wx (.For tg e body [] pos) (mFor mi gm b) := by
  refine PSwk (ps_for hp hc hi hg hb hs) fun D σ H ⟨σd, hd, g, k, sr, ok⟩ => ⟨σd, hd, g, k, sr, st_x k sr ok, fun it h1 e1 J H1 g1 x1 k1 ir => ?_⟩
  have ok1 := st_o ok e1 x1
  cases it with
  | sq ws =>
    have ok1 : OkS X Wx H1 g1 D (forL gm b ws σd h1) := ok1
    refine ⟨fun i m σ H => m = ws.length - i ∧ i ≤ ws.length ∧ ∃ σd hd g, Ext H1 g1 H g ∧ Hr X.K X.tb H g hd ∧ Sr X.K X.tb H g σd σ ∧ OkS X Wx H g D (forL gm b (ws.drop i) σd hd), ⟨ws.length, by simp, Nat.zero_le _, σd, h1, g1, .refl _ _, k1, sr.ext x1, ok1⟩, ?_⟩
    rintro i m σ H ⟨rfl, hi, σ2, h2, g2, x2, k2, s2, ok2⟩
    obtain ⟨is, ig⟩ := ir H g2 h2 ws x2.w k2 rfl i
    by_cases hl : i < ws.length
    · obtain ⟨go, yl⟩ := ig ws[i] (List.getElem?_eq_getElem hl)
      rw [List.drop_eq_getElem_cons hl] at ok2
      refine .inr ⟨go, fun σ' H' => ∃ σd hd g, Ext H1 g1 H' g ∧ Hr X.K X.tb H' g hd ∧ Sr X.K X.tb H' g σd σ' ∧ OkS X Wx H' g D (forL gm b (ws.drop (i + 1)) σd hd), fun σ' H' h => ⟨ws.length - (i + 1), by omega, rfl, hl, h⟩, fun x H3 y => ?_⟩
      obtain ⟨g3, x3, k3, r3⟩ := yl x H3 y
      have ok3 := OkS.step (ok2.ext x3) (N := fun σ' H' => ∃ σd hd g, Ext H1 g1 H' g ∧ Hr X.K X.tb H' g hd ∧ Sr X.K X.tb H' g σd σ' ∧ OkS X Wx H' g D (forL gm b (ws.drop (i + 1)) σd hd))
        fun σ4 h4 o4 σ' H' g' x4 k4 s4 => ⟨σ4, h4, g', (x2.trans x3).trans x4, k4, s4, o4.ext x4⟩
      exact ⟨ws[i], σ2, h2, g3, k3, s2.ext x3, r3, ok3⟩
    · have hl' : i = ws.length := by omega
      subst hl'
      rw [List.drop_length] at ok2
      exact .inl ⟨is (Nat.le_refl _), ok2 σ H g2 (.refl _ _) k2 s2⟩
  | lv l =>
    have ok1 : OkS X Wx H1 g1 D (forV gm b l 1099511627776 0 σd h1) := ok1
    refine ⟨fun i m σ H => ∃ σd hd g, Ext H1 g1 H g ∧ Hr X.K X.tb H g hd ∧ Sr X.K X.tb H g σd σ ∧ OkS X Wx H g D (forV gm b l m i σd hd), ⟨1099511627776, σd, h1, g1, .refl _ _, k1, sr.ext x1, ok1⟩, ?_⟩
    rintro i m σ H ⟨σ2, h2, g2, x2, k2, s2, ok2⟩
    cases m with
    | zero => exact ok2.elim
    | succ m =>
      unfold forV at ok2
      split at ok2
      · rename_i xs e2
        obtain ⟨is, ig⟩ := ir H g2 h2 xs x2.w k2 (by unfold itAt; dsimp only; rw [e2]) i
        split at ok2
        · rename_i w ew
          obtain ⟨go, yl⟩ := ig w ew
          refine .inr ⟨go, fun σ' H' => ∃ σd hd g, Ext H1 g1 H' g ∧ Hr X.K X.tb H' g hd ∧ Sr X.K X.tb H' g σd σ' ∧ OkS X Wx H' g D (forV gm b l m (i + 1) σd hd), fun σ' H' h => ⟨m, Nat.lt_succ_self m, h⟩, fun x H3 y => ?_⟩
          obtain ⟨g3, x3, k3, r3⟩ := yl x H3 y
          exact ⟨w, σ2, h2, g3, k3, s2.ext x3, r3, OkS.step (ok2.ext x3) fun σ4 h4 o4 σ' H' g' x4 k4 s4 => ⟨σ4, h4, g', (x2.trans x3).trans x4, k4, s4, o4.ext x4⟩⟩
        · rename_i ew
          exact .inl ⟨is (by simpa using ew), ok2 σ H g2 (.refl _ _) k2 s2⟩
      · exact ok2.elim
end
end EV

set_option Elab.async false
set_option linter.all false
set_option maxRecDepth 100000
set_option maxHeartbeats 4000000
namespace EV
open PySem PySem.Spec L2

/-! ## functions -/
def EndQ (K : PySem.W.Frag) (mg : Str → Option Value) (tb : Addr → Prop) (H : Hp) (g : G) (Q : VK) (E : XK) : R W → Prop
  | .ok w hd' => ∀ v H' g', Ext H g H' g' → Hr K tb H' g' hd' → Rel K tb H' g' w v → Q v H'
  | .exc c hd' => ∀ H' g', Ext H g H' g' → Hr K tb H' g' hd' → E (excV mg c) none H'
  | .bad => False
def spV (n : Nat) (K : PySem.W.Frag) (mg : Str → Option Value) (tb : Addr → Prop) (F : Fn) : Sp := fun vs H Q E => vs.length = n ∧ ∃ ws hd g, Hr K tb H g hd ∧ Rels K tb H g ws vs ∧ EndQ K mg tb H g Q E (F ws hd)
/-- x names a function that does F on n values -/
structure DefV (P : Program) (w : World) (K : PySem.W.Frag) (mg : Str → Option Value) (base : Heap) (k : Nat) (x : Str) (n : Nat) (F : Fn) : Prop where
  ex : ∃ (f : Addr) (fd : FuncData) (ps : List Str), FnOk P w K mg base (L2N.CX P w) k f fd ps (spV n K mg (tbOf K base mg) F) ∧ mg x = some (.ref f) ∧ PySem.W.keepIn K (.ref f) = true ∧ Binds K fd ps []
  ar : ∀ ws h, ws.length ≠ n → F ws h = .bad
def startW (N : Nat) (ws : List W) : Sg := ws.map some ++ List.replicate (N - ws.length) none
def fnEnd : RS → R W
  | .rt w h1 => .ok w h1
  | .nx _ h1 => .ok .non h1
  | .exc c _ h1 => .exc c h1
  | _ => .bad
def fnB (n N : Nat) (m : Sg → Hd → RS) : Fn := fun ws h => if ws.length = n then fnEnd (m (startW N ws) h) else .bad
section
variable {P : Program} {w : World} {K : PySem.W.Frag} {mg : Str → Option Value} {base : Heap}
theorem start_sr {tb : Addr → Prop} {H : Hp} {g : G} {N : List Str} {ws : List W} {vs : List V} (r : Rels K tb H g ws vs) : Sr K tb H g (startW N.length ws) (L2.start N vs) := by
  have hl := r.length
  refine ⟨?_, fun i x e => ?_⟩
  · unfold startW L2.start
    simp [hl]
  · unfold startW at e
    unfold L2.start
    by_cases hi : i < ws.length
    · rw [List.getElem?_append_left (by simpa using hi), List.getElem?_map] at e
      cases q : ws[i]? with
      | none => rw [q] at e; cases e
      | some y =>
        rw [q] at e
        cases e
        obtain ⟨v, ev, rv⟩ := r.get q
        exact ⟨v, by rw [List.getElem?_append_left (by simp; omega), List.getElem?_map, ev]; rfl, rv⟩
    · rw [List.getElem?_append_right (by simpa using hi), List.getElem?_replicate] at e
      split at e <;> cases e
theorem DefV.mono {j k n : Nat} {x : Str} {F : Fn} (d : DefV P w K mg base j x n F) (h : j ≤ k) : DefV P w K mg base k x n F :=
  ⟨let ⟨f, fd, ps, a, b⟩ := d.ex; ⟨f, fd, ps, a.mono h, b⟩, d.ar⟩
theorem def_bad {x : Str} {st : Stmt} {f : Addr} {fd : FuncData} {ps : List Str} {n : Nat} (k : Nat) (F : Fun K x x st f fd) (hm : mg x = some (.ref f)) (b : Binds K fd ps []) : DefV P w K mg base k x n fun _ _ => .bad :=
  ⟨⟨f, fd, ps, ⟨fun vs H Q E ⟨_, _, _, _, _, _, z⟩ => z.elim, fun A outer s H args us vs Q E hr he hb hv ⟨_, _, _, _, _, _, z⟩ => z.elim⟩, hm, F.kp, b⟩, fun _ _ _ => rfl⟩
theorem def_mk {x : Str} {st : Stmt} {f : Addr} {fd : FuncData} {N ps : List Str} {k : Nat} {m : Sg → Hd → RS} (F : Fun K x x st f fd) (hm : mg x = some (.ref f)) (b : Binds K fd ps []) (S : FnScope N ps (defScope st))
    (hbody : ∀ (cdv : Value) (A : Around) (outer : List Env) (s : Shared) (H : Hp) (E : XK), Room k (A.deeper (PyProof.Rows.envOfC x (defScope st) s.heap.objs.size f cdv)) →
      SSs (cxOf (L2N.CX P w) P w K mg base N x (defScope st) f cdv A outer s H E) (fun cls d _ H => E cls d H) (defBody st) m) : DefV P w K mg base (k + 1) x ps.length (fnB ps.length N.length m) := by
  obtain ⟨oc, od, kV, doc, pm, an, cdv, ct, osl, e, lk, hcd⟩ := F.ex
  have kp := F.kp
  subst e
  refine ⟨⟨f, _, ps, fn_of lk hcd S (fun vs H Q E h => h.1) fun A outer s H vs Q E hr ⟨hl, ws, hd, g, k1, r1, q⟩ => ⟨_, hbody cdv A outer s H E hr, startW N.length ws, hd, g, k1, start_sr r1, ?_⟩, hm, kp, b⟩, fun ws h hne => by unfold fnB; rw [if_neg hne]⟩
  have hl2 : ws.length = ps.length := r1.length.trans hl
  unfold fnB at q
  rw [if_pos hl2] at q
  cases e : m (startW N.length ws) hd with
  | nx σ1 h1 => rw [e] at q; exact fun σ' H' g' x k s => q _ H' g' x k (.non .nil)
  | rt w h1 => rw [e] at q; exact fun v H' g' x k r => q v H' g' x k r
  | exc c σ1 h1 => rw [e] at q; exact fun σ' H' g' x k s => q H' g' x k
  | _ => rw [e] at q; exact q.elim
end
section
variable {X : Cx} {Wx : WX} {e : Expr} {es : List Expr} {x : Str} {p pos : Pos} {k n : Nat} {F : Fn} {mes : Sg → Hd → R (List W)}
theorem call_sp {σ : St} {H : Hp} {g : G} {hd : Hd} {ws : List W} {vs : List V} {Q : VK} (ar : ∀ ws h, ws.length ≠ n → F ws h = .bad) (k : Hr X.K X.tb H g hd) (r : Rels X.K X.tb H g ws vs) (hx : XOk X Wx σ H g (F ws hd))
    (q : ∀ w hd', F ws hd = .ok w hd' → ∀ v H' g', Ext H g H' g' → Hr X.K X.tb H' g' hd' → Rel X.K X.tb H' g' w v → Q v H') : spV n X.K X.mg X.tb F vs H Q (WE Wx σ) := by
  refine ⟨?_, ws, hd, g, k, r, ?_⟩
  · rw [← r.length]
    refine Decidable.byContradiction fun hne => ?_
    rw [ar ws hd hne] at hx
    exact hx.elim
  · cases e : F ws hd with
    | ok w hd' => exact q w hd' e
    | exc c hd' => rw [e] at hx; exact hx
    | bad => rw [e] at hx; exact hx.elim
theorem s_call (D : DefV X.prog X.w X.K X.mg X.base k x n F) (hr : Room k X.A) (tk : L2N.Takes X Wx) (hg : Gl X x) (ha : SA X Wx (e :: es) mes) (hdb : (x == ("__debug__" : Str)) = false := by decide)
    (he : starEach (e :: es) X.env = (false, eval e X.env) :: starEach es X.env := by rfl) (hpl : (backTo pos (starEach es X.env)).any (·.1) = false := by rfl) : SE X Wx (.Call (.Name x p) (e :: es) [] pos) (mCall F mes) := by
  obtain ⟨f, fd, ps, ok, hm, hk, hb⟩ := D.ex
  refine ⟨fun pins s σ H Q I ⟨σd, hd, g, kk, sr, hx, q⟩ => (pe_callS (E := WE Wx) ok hr hg hm hk hb (L2N.passAt tk) ha hdb he hpl).run pins s σ H Q I ?_⟩
  unfold mCall at hx q
  exact ⟨σd, hd, g, kk, sr, hx.bind1, fun ws h1 e1 vs H1 g1 x1 k1 r1 => call_sp D.ar k1 r1 (XOk.bind2 hx e1 x1) fun w hd' e2 v H' g' x2 => q w hd' (by rw [e1]; exact e2) v H' g' (x1.trans x2)⟩
theorem s_call0 (D : DefV X.prog X.w X.K X.mg X.base k x n F) (hr : Room k X.A) (tk : ∀ σ, Passes (L2N.CX X.prog X.w) X (WE Wx σ)) (hg : Gl X x) (hdb : (x == ("__debug__" : Str)) = false := by decide) : SE X Wx (.Call (.Name x p) [] [] pos) (mCall F mNil) := by
  obtain ⟨f, fd, ps, ok, hm, hk, hb⟩ := D.ex
  refine ⟨fun pins s σ H Q I ⟨σd, hd, g, kk, sr, hx, q⟩ => (pe_call0 (E := WE Wx σ) (dvs := []) ok hr hg hm hk hb .nil (tk σ) hdb).run pins s σ H Q I ?_⟩
  exact call_sp D.ar kk .nil hx fun w hd' e2 => q w hd' e2
end

/-! ## closed values, pure functions -/
mutual
def noRef : W → Bool
  | .tup xs => noRefs xs
  | .fl xs => noRefs xs
  | .scr xs => noRefs xs
  | .fd _ vs => noRefs vs
  | .fs _ => false
  | .ref _ => false
  | .obj _ => false
  | _ => true
def noRefs : List W → Bool
  | [] => true
  | x :: xs => noRef x && noRefs xs
end
def frzD (h : Hd) : Nat → W → Option W
  | 0, _ => none
  | n + 1, w => match w with
    | .tup xs => (mapO (frzD h n) xs).map .tup
    | .fl xs => (mapO (frzD h n) xs).map .fl
    | .scr xs => if noRefs xs then some (.scr xs) else none
    | .fd ks vs => (mapO (frzD h n) vs).map (.fd ks)
    | .fs _ => none
    | .ref l => match h[l]? with
      | some (.lst xs) => (mapO (frzD h n) xs).map .fl
      | some (.dct ks vs) => (mapO (frzD h n) vs).map (.fd ks)
      | _ => none
    | .obj _ => none
    | w => some w
def frzW (h : Hd) (w : W) : Option W := if noRef w = true then some w else frzD h 64 w
def pureF (F : Fn) : Fn := fun ws h => if noRefs ws = true then (match F ws [] with
  | .ok w h1 => match frzW h1 w with
    | some w' => .ok w' h
    | none => .bad
  | .exc c _ => .exc c h
  | .bad => .bad) else .bad
section
variable {K : PySem.W.Frag} {tb : Addr → Prop} {H H' : Hp} {g g' : G} {hd : Hd}
/-- no place that changes: only what is frozen matters -/
theorem rels_noRef (hF : ∀ a, g.F a → g'.F a) {ws : List W} {vs : List V} (h : Rels K tb H g ws vs) (e : noRefs ws = true) : Rels K tb H g' ws vs := by
  induction h with
  | nil => exact .nil
  | non _ ih => exact .non (ih (by simpa [noRefs, noRef] using e))
  | bl _ ih => exact .bl (ih (by simpa [noRefs, noRef] using e))
  | int _ ih => exact .int (ih (by simpa [noRefs, noRef] using e))
  | str _ ih => exact .str (ih (by simpa [noRefs, noRef] using e))
  | tup s _ _ i1 i2 => simp only [noRefs, noRef, Bool.and_eq_true] at e; exact .tup s (i1 e.1) (i2 e.2)
  | fl s _ _ i1 i2 => simp only [noRefs, noRef, Bool.and_eq_true] at e; exact .fl ⟨s.1, hF _ s.2⟩ (i1 e.1) (i2 e.2)
  | scr s _ _ i1 i2 => simp only [noRefs, noRef, Bool.and_eq_true] at e; exact .scr (s.mono hF) (i1 e.1) (i2 e.2)
  | fd s f d _ _ i1 i2 => simp only [noRefs, noRef, Bool.and_eq_true] at e; exact .fd s (hF _ f) d (i1 e.1) (i2 e.2)
  | ref _ _ _ => simp [noRefs, noRef] at e
  | obj _ _ => simp [noRefs, noRef] at e
theorem mapO_rels {f : W → Option W} : ∀ {ws ws' : List W} {vs : List V}, (∀ w ∈ ws, ∀ v w', Rel K tb H g w v → f w = some w' → Rel K tb H g' w' v) → Rels K tb H g ws vs → mapO f ws = some ws' → Rels K tb H g' ws' vs
  | [], ws', vs, _, r, e => by
    cases r
    cases e
    exact .nil
  | w :: ws, ws', vs, ih, r, e => by
    obtain ⟨v, vr, rfl, r1, r2⟩ := r.uncons
    unfold mapO at e
    cases e1 : f w with
    | none => rw [e1] at e; cases e
    | some d =>
      cases e2 : mapO f ws with
      | none => rw [e1, e2] at e; cases e
      | some ds' =>
        rw [e1, e2] at e
        cases e
        exact .cons (ih w List.mem_cons_self v d r1 e1) (mapO_rels (fun x hx => ih x (List.mem_cons_of_mem _ hx)) r2 e2)
theorem frzD_rel (k : Hr K tb H g hd) (hF : ∀ a, g.F a → g'.F a) (hρ : ∀ a ∈ g.ρ, g'.F a) : ∀ (n : Nat) {w w' : W} {v : V}, Rel K tb H g w v → frzD hd n w = some w' → Rel K tb H g' w' v
  | 0, _, _, _, _, e => by cases e
  | n + 1, w, w', v, r, e => by
    have ih : ∀ {xs xs' : List W} {us : List V}, Rels K tb H g xs us → mapO (frzD hd n) xs = some xs' → Rels K tb H g' xs' us := fun r e => mapO_rels (fun w _ v w' r e => frzD_rel k hF hρ n r e) r e
    cases w with
    | non => cases e; cases r; exact .non .nil
    | bl b => cases e; cases r; exact .bl .nil
    | int i => cases e; cases r; exact .int .nil
    | str x => cases e; cases r; exact .str .nil
    | tup xs =>
      obtain ⟨ds, e1, rfl⟩ := Option.map_eq_some_iff.mp (show (mapO (frzD hd n) xs).map .tup = some w' from e)
      cases r with
      | tup s t _ => exact .tup s (ih t e1) .nil
    | fl xs =>
      obtain ⟨ds, e1, rfl⟩ := Option.map_eq_some_iff.mp (show (mapO (frzD hd n) xs).map .fl = some w' from e)
      cases r with
      | fl s t _ => exact .fl ⟨s.1, hF _ s.2⟩ (ih t e1) .nil
    | scr xs =>
      unfold frzD at e
      dsimp only at e
      split at e
      · cases e
        cases r with
        | scr s t _ => exact .scr (s.mono hF) (rels_noRef hF t ‹_›) .nil
      · cases e
    | fd ks xs =>
      obtain ⟨ds, e1, rfl⟩ := Option.map_eq_some_iff.mp (show (mapO (frzD hd n) xs).map (.fd ks) = some w' from e)
      cases r with
      | fd s f d t _ => exact .fd s (hF _ f) d (ih t e1) .nil
    | fs xs => cases e
    | ref l =>
      unfold frzD at e
      dsimp only at e
      split at e
      · rename_i xs q
        obtain ⟨ds, e1, rfl⟩ := Option.map_eq_some_iff.mp e
        obtain ⟨a, us, rfl, hl, h1, t⟩ := lref_of k r q
        exact .fl ⟨h1, hρ _ (List.mem_of_getElem? hl)⟩ (ih t e1) .nil
      · rename_i ks xs q
        obtain ⟨ds, e1, rfl⟩ := Option.map_eq_some_iff.mp e
        cases r with
        | ref hl _ =>
          obtain ⟨o, vs, h1, d, t⟩ := k.obj _ _ _ hl q
          exact .fd h1 (hρ _ (List.mem_of_getElem? hl)) d (ih t e1) .nil
      · cases e
    | obj a => cases e
theorem Hr.noTab (k : Hr K tb H g hd) {b : Addr} (h : tb b) (hm : b ∈ g.ρ) : False := by
  obtain ⟨l, o, _, _, r⟩ := k.at_ hm
  obtain ⟨ps, e, _⟩ := k.tab b h
  cases o with
  | lst ws => obtain ⟨vs, h1, _⟩ := r; rw [e] at h1; cases h1
  | dct ks ws =>
    obtain ⟨o, vs, h1, d, _⟩ := r
    rw [e] at h1
    cases h1
    rcases d with ⟨kk, _, _, _, z⟩ | ⟨kk, _, _, _, z⟩ <;> cases z
  | set _ => exact r
  | ins _ _ => exact r
/-- the callee's view, where nothing of ours changes -/
def G.sub (g : G) : G := ⟨g.F, fun a => g.P a ∨ a ∈ g.ρ, []⟩
theorem Hr.sub (k : Hr K tb H g hd) : Hr K tb H g.sub [] where
  len := rfl
  nd := List.nodup_nil
  nf := fun a h => absurd h (by show ¬ a ∈ ([] : List Addr); simp)
  fp := fun a h z => z.elim (k.fp a h) fun z => (k.nf a z).1 h
  there := fun a h => by
    rcases h with h | h | h
    · exact k.there a (.inl h)
    · exact k.there a (.inr h)
    · exact k.tracked h
  tab := k.tab
  tf := fun b h => ⟨(k.tf b h).1, fun z => z.elim (k.tf b h).2 fun z => k.noTab h z⟩
  obj := fun l a o e => by cases (show ([] : List Addr)[l]? = some a from e)
def G.back (g g' : G) : G := ⟨fun a => g'.F a ∨ a ∈ g'.ρ, g.P, g.ρ⟩
theorem Ext.back {hd' : Hd} (k : Hr K tb H g hd) (x : Ext H g.sub H' g') (k' : Hr K tb H' g' hd') : Ext H g H' (g.back g') ∧ Hr K tb H' (g.back g') hd := by
  have eP : ∀ a, g.P a ∨ a ∈ g.ρ → g'.P a := x.eP
  have x2 : Ext H g H' (g.back g') := ⟨x.tups, x.frzs, x.tabs, fun _ h => h, fun a h => x.keepP a (.inl h), fun a h => ⟨.inl (x.keepF a h).1, (x.keepF a h).2⟩, List.prefix_refl _⟩
  have nP : ∀ a, g'.F a ∨ a ∈ g'.ρ → ¬ (g.P a ∨ a ∈ g.ρ) := fun a h z => by
    have z' : g'.P a := eP a z
    rcases h with h | h
    · exact k'.fp a h z'
    · exact (k'.nf a h).2 z'
  refine ⟨x2, k.len, k.nd, fun a h => ⟨fun z => nP a z (.inr h), (k.nf a h).2⟩, fun a h z => nP a h (.inl z), fun a h => ?_, fun b h => x2.tabs b (k.tab b h), fun b h => ⟨fun z => z.elim (k'.tf b h).1 fun z => k'.noTab h z, (k.tf b h).2⟩, fun l a o h1 h2 => (k.obj l a o h1 h2).ext x2 (x.keepP a (.inr (List.mem_of_getElem? h1)))⟩
  rcases h with (h | h) | h
  · exact k'.there a (.inl h)
  · exact k'.tracked h
  · rw [x2.keepP a h]; exact k.there a (.inr h)
theorem def_pure {P : Program} {w : World} {mg : Str → Option Value} {base : Heap} {k n : Nat} {x : Str} {F : Fn} (d : DefV P w K mg base k x n F) : DefV P w K mg base k x n (pureF F) := by
  obtain ⟨f, fd, ps, ok, hm, hk, hb⟩ := d.ex
  refine ⟨⟨f, fd, ps, ok.imp fun vs H Q E ⟨hl, ws, hd, g, kk, r, q⟩ => ?_, hm, hk, hb⟩, fun ws h hne => ?_⟩
  · unfold pureF at q
    by_cases hz : noRefs ws = true
    · rw [if_pos hz] at q
      refine ⟨hl, ws, [], g.sub, kk.sub, rels_noRef (g := g) (g' := g.sub) (fun _ h => h) r hz, ?_⟩
      cases e : F ws [] with
      | bad => rw [e] at q; exact q
      | exc c h1 =>
        rw [e] at q
        intro H' g' x' k'
        obtain ⟨x2, k2⟩ := Ext.back kk x' k'
        exact q H' _ x2 k2
      | ok w h1 =>
        rw [e] at q
        intro v H' g' x' k' r'
        obtain ⟨x2, k2⟩ := Ext.back kk x' k'
        dsimp only at q
        cases e2 : frzW h1 w with
        | none => rw [e2] at q; exact q.elim
        | some w' =>
          rw [e2] at q
          refine q v H' _ x2 k2 ?_
          unfold frzW at e2
          split at e2
          · cases e2
            exact rels_noRef (g' := g.back g') (fun _ h => Or.inl h) r' (by simp [noRefs, *])
          · exact frzD_rel (g' := g.back g') k' (fun _ h => Or.inl h) (fun _ h => Or.inr h) 64 r' e2
    · rw [if_neg hz] at q
      exact q.elim
  · unfold pureF
    split
    · rw [d.ar ws [] hne]
    · rfl
end
end EV

set_option Elab.async false
set_option linter.all false
set_option maxRecDepth 100000
set_option maxHeartbeats 4000000
namespace EV
open PySem PySem.Spec L2

/-! ## list comprehensions -/
abbrev WF : WX := fun _ _ _ _ => False
theorem wipe_get (σ : St) (j : Nat) : ∀ vs : List Nat, (wipe σ vs)[j]? = if j ∈ vs then (if j < σ.length then some none else none) else σ[j]?
  | [] => by simp [wipe]
  | v :: vs => by
    unfold wipe
    by_cases h : v = j
    · subst h
      rw [if_pos List.mem_cons_self]
      by_cases hl : v < σ.length
      · rw [List.getElem?_set_self (by rw [wipe_length]; exact hl), if_pos hl]
      · rw [List.getElem?_eq_none (by rw [List.length_set, wipe_length]; omega), if_neg hl]
    · rw [List.getElem?_set_ne h, wipe_get σ j vs]
      by_cases hm : j ∈ vs
      · rw [if_pos hm, if_pos (List.mem_cons_of_mem _ hm)]
      · rw [if_neg hm, if_neg (by simp only [List.mem_cons, not_or]; exact ⟨fun e => h e.symm, hm⟩)]
theorem wipe_wipe (σ : St) (vs : List Nat) : wipe (wipe σ vs) vs = wipe σ vs := by
  apply List.ext_getElem?
  intro j
  rw [wipe_get, wipe_length, wipe_get]
  split <;> rfl
theorem wipe_set {σ : St} {i : Nat} {x : Option V} {vs : List Nat} (h : i ∈ vs) : wipe (σ.set i x) vs = wipe σ vs := by
  apply List.ext_getElem?
  intro j
  rw [wipe_get, wipe_get, List.length_set]
  by_cases hm : j ∈ vs
  · rw [if_pos hm, if_pos hm]
  · rw [if_neg hm, if_neg hm, List.getElem?_set_ne]
    rintro rfl
    exact hm h
def wipeS (σ : Sg) : List Nat → Sg
  | [] => σ
  | v :: vs => (wipeS σ vs).set v none
section
variable {K : PySem.W.Frag} {tb : Addr → Prop} {H H' : Hp} {g g' : G} {hd : Hd} {σd : Sg} {σ : St}
theorem wipeS_len (σ : Sg) : ∀ vs : List Nat, (wipeS σ vs).length = σ.length
  | [] => rfl
  | v :: vs => by unfold wipeS; rw [List.length_set, wipeS_len σ vs]
theorem wipeS_some {σ : Sg} {i : Nat} {x : W} : ∀ {vs : List Nat}, (wipeS σ vs)[i]? = some (some x) → σ[i]? = some (some x) ∧ i ∉ vs
  | [], h => ⟨h, by simp⟩
  | v :: vs, h => by
    unfold wipeS at h
    by_cases hi : v = i
    · subst hi
      by_cases hv : v < (wipeS σ vs).length
      · rw [List.getElem?_set_self hv] at h; cases h
      · rw [List.getElem?_eq_none (by simpa using hv)] at h; cases h
    · rw [List.getElem?_set_ne hi] at h
      obtain ⟨h1, h2⟩ := wipeS_some h
      exact ⟨h1, by simp only [List.mem_cons, not_or]; exact ⟨fun e => hi e.symm, h2⟩⟩
theorem Sr.wipe (s : Sr K tb H g σd σ) (vs : List Nat) : Sr K tb H g (wipeS σd vs) (L2.wipe σ vs) := by
  refine ⟨by rw [wipeS_len, wipe_length]; exact s.len, fun i w e => ?_⟩
  obtain ⟨e1, hn⟩ := wipeS_some e
  obtain ⟨v, ev, r⟩ := s.at_ i w e1
  exact ⟨v, by rw [wipe_out hn]; exact ev, r⟩
theorem Rels.mono (hF : ∀ a, g.F a → g'.F a) (hρ : g'.ρ = g.ρ) {ws : List W} {vs : List V} (h : Rels K tb H g ws vs) : Rels K tb H g' ws vs := by
  induction h with
  | nil => exact .nil
  | non _ ih => exact .non ih
  | bl _ ih => exact .bl ih
  | int _ ih => exact .int ih
  | str _ ih => exact .str ih
  | tup s _ _ i1 i2 => exact .tup s i1 i2
  | fl s _ _ i1 i2 => exact .fl ⟨s.1, hF _ s.2⟩ i1 i2
  | scr s _ _ i1 i2 => exact .scr (s.mono hF) i1 i2
  | fd s f d _ _ i1 i2 => exact .fd s (hF _ f) d i1 i2
  | ref e _ ih => exact .ref (by rw [hρ]; exact e) ih
  | obj _ ih => exact .obj ih
theorem Sr.mono (hF : ∀ a, g.F a → g'.F a) (hρ : g'.ρ = g.ρ) (s : Sr K tb H g σd σ) : Sr K tb H g' σd σ :=
  ⟨s.len, fun i w e => let ⟨v, e', r⟩ := s.at_ i w e; ⟨v, e', Rels.mono hF hρ r⟩⟩
/-! the list that grows stands apart -/
def G.gd (g : G) (D : Addr) : G := { g with P := fun a => g.P a ∨ a = D }
def G.un (g' g : G) : G := { g' with P := g.P }
structure LI (K : PySem.W.Frag) (tb : Addr → Prop) (D : Addr) (H : Hp) (g : G) (hd : Hd) (acc : List V) (aw : List W) : Prop where
  k : Hr K tb H g hd
  nF : ¬ g.F D
  nP : ¬ g.P D
  nρ : D ∉ g.ρ
  hD : H D = some (.lst acc)
  r : Rels K tb H g aw acc
theorem Hr.chg (k : Hr K tb H g hd) (hF : g'.F = g.F) (hρ : g'.ρ = g.ρ) (nf : ∀ a ∈ g.ρ, ¬ g'.P a) (fp : ∀ a, g.F a → ¬ g'.P a) (tf : ∀ b, tb b → ¬ g'.P b) (th : ∀ a, g'.P a → H a ≠ none) : Hr K tb H g' hd := by
  refine ⟨by rw [hρ]; exact k.len, by rw [hρ]; exact k.nd, fun a h => ?_, fun a h => fp a (by rw [← hF]; exact h), fun a h => ?_, k.tab, fun b h => ⟨by rw [hF]; exact (k.tf b h).1, tf b h⟩, fun l a o h1 h2 => ?_⟩
  · rw [hρ] at h
    exact ⟨by rw [hF]; exact (k.nf a h).1, nf a h⟩
  · rcases h with h | h
    · exact k.there a (.inl (by rw [← hF]; exact h))
    · exact th a h
  · have z := k.obj l a o (by rw [← hρ]; exact h1) h2
    have mono : ∀ {ws : List W} {vs : List V}, Rels K tb H g ws vs → Rels K tb H g' ws vs := fun r => Rels.mono (fun a h => by rw [hF]; exact h) hρ r
    cases o with
    | lst ws => obtain ⟨vs, a1, a2⟩ := z; exact ⟨vs, a1, mono a2⟩
    | dct ks ws => obtain ⟨o, vs, a1, a2, a3⟩ := z; exact ⟨o, vs, a1, a2, mono a3⟩
    | set _ => exact z
    | ins _ _ => exact z
theorem LI.nT {D : Addr} {acc : List V} {aw : List W} (i : LI K tb D H g hd acc aw) {b : Addr} (h : tb b) (e : b = D) : False := by
  obtain ⟨ps, q, _⟩ := i.k.tab b h
  rw [e, i.hD] at q
  cases q
theorem LI.guard {D : Addr} {acc : List V} {aw : List W} (i : LI K tb D H g hd acc aw) : Hr K tb H (g.gd D) hd :=
  i.k.chg rfl rfl (fun a h z => z.elim (i.k.nf a h).2 fun e => i.nρ (by rw [← e]; exact h)) (fun a h z => z.elim (i.k.fp a h) fun e => i.nF (by rw [← e]; exact h)) (fun b h z => z.elim (i.k.tf b h).2 fun e => i.nT h e) fun a h => by
    rcases h with h | h
    · exact i.k.there a (.inr h)
    · rw [h, i.hD]; simp
theorem LI.unguard {D : Addr} {hd' : Hd} {acc : List V} {aw : List W} (i : LI K tb D H g hd acc aw) (x : Ext H (g.gd D) H' g') (k' : Hr K tb H' g' hd') : Ext H g H' (g'.un g) ∧ LI K tb D H' (g'.un g) hd' acc aw := by
  have eP : ∀ a, g.P a ∨ a = D → g'.P a := x.eP
  have x2 : Ext H g H' (g'.un g) := ⟨x.tups, x.frzs, x.tabs, fun _ h => h, fun a h => x.keepP a (.inl h), x.keepF, x.pre⟩
  have pD : g'.P D := eP D (.inr rfl)
  have imp : ∀ a, g.P a → g'.P a := fun a h => eP a (.inl h)
  refine ⟨x2, k'.chg rfl rfl (fun a h z => (k'.nf a h).2 (imp a z)) (fun a h z => k'.fp a h (imp a z)) (fun b h z => (k'.tf b h).2 (imp b z)) (fun a h => k'.there a (.inr (imp a h))), fun z => k'.fp D z pD, i.nP, fun z => (k'.nf D z).2 pD, ?_, x2.rels i.r⟩
  rw [x.keepP D (.inr rfl)]
  exact i.hD
theorem LI.put {D : Addr} {acc : List V} {aw : List W} (i : LI K tb D H g hd acc aw) {w : W} {v : V} (r : Rel K tb H g w v) : Ext H g (upd H D (.lst (acc ++ [v]))) g ∧ LI K tb D (upd H D (.lst (acc ++ [v]))) g hd (acc ++ [v]) (aw ++ [w]) := by
  have ne : ∀ {b : Addr} {o : HO}, H b = some o → (∀ l, o ≠ .lst l) → b ≠ D := fun {b o} e hl z => by
    rw [z, i.hD] at e
    exact hl acc (Option.some.inj e).symm
  have x : Ext H g (upd H D (.lst (acc ++ [v]))) g := ⟨fun b xs e => by rw [upd_ne (ne e fun l z => nomatch z)]; exact e, fun b o u e => by rw [upd_ne (ne e fun l z => nomatch z)]; exact e,
    fun b ⟨ps, e, t⟩ => ⟨ps, by rw [upd_ne (ne e fun l z => nomatch z)]; exact e, t⟩, fun _ h => h, fun a h => upd_ne fun z => i.nP (by rw [← z]; exact h), fun a h => ⟨h, upd_ne fun z => i.nF (by rw [← z]; exact h)⟩, List.prefix_refl _⟩
  have kk : Hr K tb (upd H D (.lst (acc ++ [v]))) g hd := by
    refine ⟨i.k.len, i.k.nd, i.k.nf, i.k.fp, fun a h => ?_, fun b h => x.tabs b (i.k.tab b h), i.k.tf, fun l a o h1 h2 => (i.k.obj l a o h1 h2).ext x (upd_ne fun z => i.nρ (by rw [← z]; exact List.mem_of_getElem? h1))⟩
    by_cases e : a = D
    · rw [e, upd_same]; simp
    · rw [upd_ne e]; exact i.k.there a h
  exact ⟨x, kk, i.nF, i.nP, i.nρ, upd_same, (x.rels i.r).append (x.rels r)⟩
/-- the list is done: by value, or as one that may change -/
theorem LI.frz {D : Addr} {acc : List V} {aw : List W} (i : LI K tb D H g hd acc aw) : Ext H g H (g.frz D) ∧ Hr K tb H (g.frz D) hd ∧ Rel K tb H (g.frz D) (.fl aw) (.ref D) := by
  have x : Ext H g H (g.frz D) := ⟨fun _ _ e => e, fun _ _ _ e => e, fun _ e => e, fun _ h => h, fun _ _ => rfl, fun _ h => ⟨.inl h, rfl⟩, List.prefix_refl _⟩
  refine ⟨x, ⟨i.k.len, i.k.nd, fun a h => ⟨fun z => ?_, (i.k.nf a h).2⟩, fun a h z => ?_, fun a h => ?_, i.k.tab, fun b h => ⟨fun z => z.elim (i.k.tf b h).1 fun e => i.nT h e, (i.k.tf b h).2⟩, fun l a o h1 h2 => (i.k.obj l a o h1 h2).ext x rfl⟩, .fl ⟨i.hD, .inr rfl⟩ (x.rels i.r) .nil⟩
  · rcases z with z | z
    · exact (i.k.nf a h).1 z
    · exact i.nρ (by rw [← z]; exact h)
  · rcases h with h | h
    · exact i.k.fp a h z
    · exact i.nP (by rw [← h]; exact z)
  · rcases h with (h | h) | h
    · exact i.k.there a (.inl h)
    · rw [h, i.hD]; simp
    · exact i.k.there a (.inr h)
theorem LI.own {D : Addr} {acc : List V} {aw : List W} (i : LI K tb D H g hd acc aw) : Ext H g H (g.app D) ∧ Hr K tb H (g.app D) (hd ++ [.lst aw]) ∧ Rel K tb H (g.app D) (.ref hd.length) (.ref D) := by
  have x : Ext H g H (g.app D) := ⟨fun _ _ e => e, fun _ _ _ e => e, fun _ e => e, fun _ h => h, fun _ _ => rfl, fun _ h => ⟨h, rfl⟩, List.prefix_append _ _⟩
  refine ⟨x, ⟨by simp [i.k.len], ?_, fun a h => ?_, i.k.fp, i.k.there, i.k.tab, i.k.tf, fun l a o h1 h2 => ?_⟩, .ref (by rw [← i.k.len]; simp) .nil⟩
  · refine List.nodup_append.mpr ⟨i.k.nd, by simp, fun a ha b hb z => ?_⟩
    have e : b = D := by simpa using hb
    exact i.nρ (by rw [← e, ← z]; exact ha)
  · rcases List.mem_append.mp h with h | h
    · exact i.k.nf a h
    · have e : a = D := by simpa using h
      subst e
      exact ⟨i.nF, i.nP⟩
  · by_cases hl : l < hd.length
    · rw [List.getElem?_append_left (by rw [i.k.len]; exact hl)] at h1
      rw [List.getElem?_append_left hl] at h2
      exact (i.k.obj l a o h1 h2).ext x rfl
    · rw [List.getElem?_append_right (by omega)] at h2
      rw [List.getElem?_append_right (by rw [i.k.len]; omega), i.k.len] at h1
      have e0 : l - hd.length = 0 := by
        rcases Nat.eq_zero_or_pos (l - hd.length) with z | z
        · exact z
        · rw [List.getElem?_eq_none (by simp; omega)] at h2; cases h2
      rw [e0] at h1 h2
      simp at h1 h2
      subst h1 h2
      exact ⟨acc, i.hD, x.rels i.r⟩
theorem LI.start {D : Addr} (k : Hr K tb H g hd) (h : H D = none) : Ext H g (upd H D (.lst [])) g ∧ LI K tb D (upd H D (.lst [])) g hd [] [] :=
  ⟨Ext.new k h, Hr.new k h, fun z => k.there D (.inl z) h, fun z => k.there D (.inr z) h, fun z => k.tracked z h, upd_same, .nil⟩
end

/-! ### the loop -/
def lcL (step : W → Hd → R (List W)) : List W → Hd → R (List W)
  | [], h => .ok [] h
  | x :: xs, h => (step x h).bind fun a h1 => (lcL step xs h1).bind fun b h2 => .ok (a ++ b) h2
def lcV (step : W → Hd → R (List W)) (l : Nat) : Nat → Nat → Hd → R (List W)
  | 0, _, _ => .bad
  | n + 1, i, h => match h[l]? with
    | some (.lst xs) => match xs[i]? with
      | some x => (step x h).bind fun a h1 => (lcV step l n (i + 1) h1).bind fun b h2 => .ok (a ++ b) h2
      | none => .ok [] h
    | _ => .bad
def lcRun (step : W → Hd → R (List W)) : Iw → Hd → R (List W)
  | .sq ws, h => lcL step ws h
  | .lv l, h => lcV step l 1099511627776 0 h
theorem bind_ok {α β : Type} {r : R α} {f : α → Hd → R β} {b : β} {h : Hd} (e : r.bind f = .ok b h) : ∃ a h1, r = .ok a h1 ∧ f a h1 = .ok b h := by
  cases r with
  | ok a h1 => exact ⟨a, h1, rfl, e⟩
  | exc c h1 => cases e
  | bad => cases e
theorem lc_loop {K : PySem.W.Frag} {tb : Addr → Prop} {D : Addr} {J : It} {it : Iw} {step : W → Hd → R (List W)} {T : V → Hp → (Hp → Prop) → Prop} {Fin : Hp → Prop} {H1 H0 : Hp} {g1 g0 : G} {h0 hE : Hd} {acc0 : List V} {aw0 rs : List W}
    (ir : ItR K tb H1 g1 it J) (x0 : ExtW H1 g1 H0 g0) (l0 : LI K tb D H0 g0 h0 acc0 aw0) (e0 : lcRun step it h0 = .ok rs hE) (hz : acc0.length + rs.length ≤ 16777216)
    (hT : ∀ w v H g hd acc aw a h' Nx, LI K tb D H g hd acc aw → Ext H0 g0 H g → Rel K tb H g w v → step w hd = .ok a h' → acc.length + a.length ≤ 16777216 → (∀ H' g' acc', Ext H g H' g' → LI K tb D H' g' h' acc' (aw ++ a) → Nx H') → T v H Nx)
    (hF : ∀ H g acc, Ext H0 g0 H g → LI K tb D H g hE acc (aw0 ++ rs) → Fin H) :
    ∃ W : Nat → Nat → Hp → Prop, (∃ m, W 0 m H0) ∧ ∀ i m H, W i m H → (J.stop i H ∧ Fin H) ∨ (J.go i H ∧ ∃ Nx : Hp → Prop, (∀ H', Nx H' → ∃ m', m' < m ∧ W (i + 1) m' H') ∧ ∀ x H', J.yld i H x H' → T x H' Nx) := by
  have turn : ∀ {w : W} {i : Nat} {H H' : Hp} {g : G} {hd h' : Hd} {acc : List V} {aw a : List W} {x' : V} {ws : List W} {Nx : Hp → Prop}, Ext H0 g0 H g → LI K tb D H g hd acc aw → itAt hd it = some ws → ws[i]? = some w → J.yld i H x' H' → step w hd = .ok a h' → acc.length + a.length ≤ 16777216 →
      (∀ H' g' acc', Ext H0 g0 H' g' → LI K tb D H' g' h' acc' (aw ++ a) → Nx H') → T x' H' Nx := fun {w i H H' g hd h' acc aw a x' ws Nx} x l ea ew y e1 hz hN => by
    have xg : Ext H g H (g.gd D) := ⟨fun _ _ e => e, fun _ _ _ e => e, fun _ e => e, fun _ h => .inl h, fun _ _ => rfl, fun _ h => ⟨h, rfl⟩, List.prefix_refl _⟩
    obtain ⟨go, yl⟩ := (ir H _ hd ws ((x0.trans x.w).trans xg.w) l.guard ea i).2 w ew
    obtain ⟨g2, x2, k2, r2⟩ := yl x' H' y
    obtain ⟨x3, l3⟩ := l.unguard x2 k2
    exact hT w x' H' _ hd acc aw a h' Nx l3 (x.trans x3) (Rels.mono (g := g2) (g' := g2.un g) (fun _ h => h) rfl r2) e1 hz fun H4 g4 acc4 x4 l4 => hN H4 g4 acc4 ((x.trans x3).trans x4) l4
  have len : ∀ {H : Hp} {g : G} {hd : Hd} {acc : List V} {aw r : List W}, LI K tb D H g hd acc aw → aw ++ r = aw0 ++ rs → acc.length + r.length ≤ 16777216 := fun l eq => by
    have h1 := congrArg List.length eq
    have h2 := l.r.length
    have h3 := l0.r.length
    simp only [List.length_append] at h1
    omega
  cases it with
  | sq ws =>
    have e0 : lcL step ws h0 = .ok rs hE := e0
    refine ⟨fun i m H => m = ws.length - i ∧ i ≤ ws.length ∧ ∃ g hd acc aw r, Ext H0 g0 H g ∧ LI K tb D H g hd acc aw ∧ lcL step (ws.drop i) hd = .ok r hE ∧ aw ++ r = aw0 ++ rs, ⟨ws.length, by simp, Nat.zero_le _, g0, h0, acc0, aw0, rs, .refl _ _, l0, e0, rfl⟩, ?_⟩
    rintro i m H ⟨rfl, hi, g, hd, acc, aw, r, x, l, e, eq⟩
    obtain ⟨is, ig⟩ := ir H g hd ws (x0.trans x.w) l.k rfl i
    have hlen := len l eq
    by_cases hl : i < ws.length
    · obtain ⟨go, _⟩ := ig ws[i] (List.getElem?_eq_getElem hl)
      rw [List.drop_eq_getElem_cons hl] at e
      obtain ⟨a, h2, e1, e2⟩ := bind_ok e
      obtain ⟨b, h3, e3, e4⟩ := bind_ok e2
      cases e4
      refine .inr ⟨go, fun H' => ∃ g hd acc aw r, Ext H0 g0 H' g ∧ LI K tb D H' g hd acc aw ∧ lcL step (ws.drop (i + 1)) hd = .ok r hE ∧ aw ++ r = aw0 ++ rs, fun H' h => ⟨ws.length - (i + 1), by omega, rfl, hl, h⟩, fun x' H' y => ?_⟩
      refine turn x l rfl (List.getElem?_eq_getElem hl) y e1 (by simp only [List.length_append] at hlen; omega) fun H4 g4 acc4 x4 l4 => ⟨g4, h2, acc4, aw ++ a, b, x4, l4, e3, ?_⟩
      rw [List.append_assoc]
      exact eq
    · have hl' : i = ws.length := by omega
      subst hl'
      rw [List.drop_length] at e
      cases e
      rw [List.append_nil] at eq
      subst eq
      exact .inl ⟨is (Nat.le_refl _), hF H g acc x l⟩
  | lv l1 =>
    have e0 : lcV step l1 1099511627776 0 h0 = .ok rs hE := e0
    refine ⟨fun i m H => ∃ g hd acc aw r, Ext H0 g0 H g ∧ LI K tb D H g hd acc aw ∧ lcV step l1 m i hd = .ok r hE ∧ aw ++ r = aw0 ++ rs, ⟨1099511627776, g0, h0, acc0, aw0, rs, .refl _ _, l0, e0, rfl⟩, ?_⟩
    rintro i m H ⟨g, hd, acc, aw, r, x, l, e, eq⟩
    have hlen := len l eq
    cases m with
    | zero => cases e
    | succ m =>
      unfold lcV at e
      split at e
      · rename_i xs q
        have ea : itAt hd (.lv l1) = some xs := by unfold itAt; dsimp only; rw [q]
        obtain ⟨is, ig⟩ := ir H g hd xs (x0.trans x.w) l.k ea i
        split at e
        · rename_i w ew
          obtain ⟨go, _⟩ := ig w ew
          obtain ⟨a, h2, e1, e2⟩ := bind_ok e
          obtain ⟨b, h3, e3, e4⟩ := bind_ok e2
          cases e4
          refine .inr ⟨go, fun H' => ∃ g hd acc aw r, Ext H0 g0 H' g ∧ LI K tb D H' g hd acc aw ∧ lcV step l1 m (i + 1) hd = .ok r hE ∧ aw ++ r = aw0 ++ rs, fun H' h => ⟨m, Nat.lt_succ_self m, h⟩, fun x' H' y => ?_⟩
          refine turn x l ea ew y e1 (by simp only [List.length_append] at hlen; omega) fun H4 g4 acc4 x4 l4 => ⟨g4, h2, acc4, aw ++ a, b, x4, l4, e3, ?_⟩
          rw [List.append_assoc]
          exact eq
        · rename_i ew
          cases e
          rw [List.append_nil] at eq
          subst eq
          exact .inl ⟨is (by simpa using ew), hF H g acc x l⟩
      · cases e

/-! ### targets, tests -/
def tCg (X : Cx) (m : W → Sg → Hd → Option Sg) (is : List Nat) : TG := fun v σ H Q => ∃ w σd hd g, Hr X.K X.tb H g hd ∧ Sr X.K X.tb H g σd σ ∧ Rel X.K X.tb H g w v ∧ ∃ σd2, m w σd hd = some σd2 ∧
  ∀ σ2, Sr X.K X.tb H g σd2 σ2 → (∀ vs : List Nat, (∀ i ∈ is, i ∈ vs) → wipe σ2 vs = wipe σ vs) → Q σ2 H
def tCs (X : Cx) (m : List W → Sg → Hd → Option Sg) (is : List Nat) : TGs := fun vs σ H Q => ∃ ws σd hd g, Hr X.K X.tb H g hd ∧ Sr X.K X.tb H g σd σ ∧ Rels X.K X.tb H g ws vs ∧ ∃ σd2, m ws σd hd = some σd2 ∧
  ∀ σ2, Sr X.K X.tb H g σd2 σ2 → (∀ vs : List Nat, (∀ i ∈ is, i ∈ vs) → wipe σ2 vs = wipe σ vs) → Q σ2 H
abbrev SC (X : Cx) (e : Expr) (m : W → Sg → Hd → Option Sg) (is : List Nat) : Prop := PG X e (tCg X m is)
abbrev SCs (X : Cx) (es : List Expr) (m : List W → Sg → Hd → Option Sg) (is : List Nat) : Prop := PGs X es (tCs X m is)
def cmN (i : Nat) : W → Sg → Hd → Option Sg := fun w σ _ => some (σ.set i (some w))
def cmNil : List W → Sg → Hd → Option Sg := fun ws σ _ => match ws with
  | [] => some σ
  | _ => none
def cmCons (m : W → Sg → Hd → Option Sg) (ms : List W → Sg → Hd → Option Sg) : List W → Sg → Hd → Option Sg := fun ws σ h => match ws with
  | w :: ws => match m w σ h with
    | some σ2 => ms ws σ2 h
    | none => none
  | _ => none
def cmTup (n : Nat) (ms : List W → Sg → Hd → Option Sg) : W → Sg → Hd → Option Sg := fun w σ h => match seqOf h w with
  | some xs => if xs.length = n then ms xs σ h else none
  | none => none
section
variable {X : Cx} {e : Expr} {es : List Expr} {pos : Pos} {m : W → Sg → Hd → Option Sg} {ms : List W → Sg → Hd → Option Sg} {is js : List Nat}
theorem c_name {i : Nat} {x : Str} (hN : X.N.Nodup) (hi : X.N[i]? = some x) (hx : Loc X.env.scope x) (hf : X.fn x = true ∨ X.env.scope.names.lookup x = some .local := by first | exact .inl rfl | exact .inr rfl | assumption) : SC X (.Name x pos) (cmN i) [i] :=
  PGwk (pg_name hN hi hx hf) fun v σ H Q ⟨w, σd, hd, g, k, sr, r, σd2, e, q⟩ => by
    cases e
    exact q _ (sr.set i r) fun vs hv => wipe_set (hv i (by simp))
theorem c_nil : SCs X [] cmNil [] := PGswk pgs_nil fun vs σ H Q ⟨ws, σd, hd, g, k, sr, r, σd2, e, q⟩ => by
  cases ws with
  | nil => cases r; cases e; exact ⟨rfl, q _ sr fun _ _ => rfl⟩
  | cons w ws => cases e
theorem c_cons (h1 : SC X e m is) (h2 : SCs X es ms js) (hs : (assignEach (e :: es) X.env).map (·.2) = assign e X.env :: (assignEach es X.env).map (·.2) := by rfl) : SCs X (e :: es) (cmCons m ms) (is ++ js) :=
  PGswk (pgs_cons h1 h2 hs) fun vs σ H Q ⟨ws, σd, hd, g, k, sr, r, σd2, e, q⟩ => by
    cases ws with
    | nil => cases e
    | cons w ws =>
      obtain ⟨v, vr, rfl, r1, r2⟩ := r.uncons
      unfold cmCons at e
      dsimp only at e
      split at e
      · rename_i σ3 e3
        refine ⟨v, vr, rfl, w, σd, hd, g, k, sr, r1, σ3, e3, fun σ2 s2 h2 => ⟨ws, σ3, hd, g, k, s2, r2, σd2, e, fun σ4 s4 h4 => q σ4 s4 fun vs hv => ?_⟩⟩
        rw [h4 vs fun i hi => hv i (List.mem_append_right _ hi), h2 vs fun i hi => hv i (List.mem_append_left _ hi)]
      · cases e
theorem c_tup {n kk : Nat} (hc : X.calm = true) (h : SCs X es ms is) (hn : (assignEach es X.env).length = n := by rfl) (hst : (assignEach es X.env).findIdx? (·.1) = none := by rfl) : SC X (.Tuple es kk pos) (cmTup n ms) is := by
  refine ⟨fun pins s σ H v u Q I rv ⟨w, σd, hd, g, k, sr, r, σd2, e, q⟩ => ?_⟩
  unfold cmTup at e
  split at e
  · rename_i xs e1
    split at e
    · rename_i hl
      obtain ⟨a, us, rfl, hq, t⟩ := seq_of k r e1
      have hl' : us.length = n := by rw [← t.length]; exact hl
      rcases hq with hq | hq
      · exact (pg_lst hc h hn hst).run pins s σ H _ u Q I rv ⟨a, us, rfl, hq, hl', xs, σd, hd, g, k, sr, t, σd2, e, q⟩
      · exact (pg_tup hc h hn hst).run pins s σ H _ u Q I rv ⟨a, us, rfl, hq, hl', xs, σd, hd, g, k, sr, t, σd2, e, q⟩
    · cases e
  · cases e
def mYes : Sg → Hd → R Bool := fun _ h => .ok true h
theorem ts_nil {Wx : WX} : PTs X [] (tT X Wx mYes) := ⟨fun pins s σ H Q I ⟨σd, hd, g, k, sr, hx, q⟩ => pts_nil.run pins s σ H Q I (q true hd rfl H g (.refl _ _) k)⟩
end
/-- one turn -/
def lcStep (gm : W → Sg → Hd → Option Sg) (mt : Sg → Hd → R Bool) (me : Sg → Hd → R W) (σ : Sg) : W → Hd → R (List W) := fun x h => match gm x σ h with
  | none => .bad
  | some σ2 => match mt σ2 h with
    | .ok true h3 => match me σ2 h3 with
      | .ok w h4 => .ok [w] h4
      | _ => .bad
    | .ok false h3 => .ok [] h3
    | _ => .bad
def lcEnd (r : R (List W)) : R W := match r with
  | .ok ws h => if ws.length ≤ 16777216 then .ok (.fl ws) h else .bad
  | _ => .bad
def lcEndN (r : R (List W)) : R W := match r with
  | .ok ws h => if ws.length ≤ 16777216 then .ok (.ref h.length) (h ++ [.lst ws]) else .bad
  | _ => .bad
def mLc (vs : List Nat) (mi : Sg → Hd → R Iw) (gm : W → Sg → Hd → Option Sg) (mt : Sg → Hd → R Bool) (me : Sg → Hd → R W) : Sg → Hd → R W := fun σ h => (mi σ h).bind fun it h1 => lcEnd (lcRun (lcStep gm mt me (wipeS σ vs)) it h1)
def mLcN (vs : List Nat) (mi : Sg → Hd → R Iw) (gm : W → Sg → Hd → Option Sg) (mt : Sg → Hd → R Bool) (me : Sg → Hd → R W) : Sg → Hd → R W := fun σ h => (mi σ h).bind fun it h1 => lcEndN (lcRun (lcStep gm mt me (wipeS σ vs)) it h1)
section
variable {X : Cx} {Wx : WX} {mi : Sg → Hd → R Iw} {gm : W → Sg → Hd → Option Sg} {is : List Nat} {mt : Sg → Hd → R Bool} {me : Sg → Hd → R W} {vs : List Nat}
theorem xok_of {α : Type} {r : R α} {a : α} {h : Hd} {σ : St} {H : Hp} {g : G} (e : r = .ok a h) : XOk X Wx σ H g r := by rw [e]; trivial
/-- the reading, for any end -/
theorem lc_core {σd : Sg} {hd : Hd} {g : G} {σ : St} {H : Hp} {Q : VK} {end_ : R (List W) → R W} (his : ∀ i ∈ is, i ∈ vs) (k : Hr X.K X.tb H g hd) (sr : Sr X.K X.tb H g σd σ)
    (hx : XOk X Wx σ H g ((mi σd hd).bind fun it h1 => end_ (lcRun (lcStep gm mt me (wipeS σd vs)) it h1)))
    (q : OkQ X H g ((mi σd hd).bind fun it h1 => end_ (lcRun (lcStep gm mt me (wipeS σd vs)) it h1)) Q)
    (hE : ∀ {r : R (List W)} {H1 : Hp} {g1 : G}, XOk X Wx σ H1 g1 (end_ r) → ∃ ws hd' w h2, r = .ok ws hd' ∧ ws.length ≤ 16777216 ∧ end_ r = .ok w h2 ∧ ∀ D H2 g2 acc, LI X.K X.tb D H2 g2 hd' acc ws → ∃ g3, Ext H2 g2 H2 g3 ∧ Hr X.K X.tb H2 g3 h2 ∧ Rel X.K X.tb H2 g3 w (.ref D)) :
    tLc (tI X Wx mi) (tCg X gm is) (tT X WF mt) (tE X WF me) vs σ H Q := by
  refine ⟨σd, hd, g, k, sr, hx.bind1, fun it h1 e1 J H1 g1 x1 k1 ir D hD => ?_⟩
  have hx1 := XOk.bind2 hx e1 x1
  obtain ⟨ws, hd', w, h2, er, hz, ee, fin⟩ := hE hx1
  obtain ⟨x2, l2⟩ := LI.start k1 hD
  have s2 := ((sr.ext x1).ext x2).wipe vs
  refine lc_loop ir x2.w l2 er (by simpa using hz) (fun w' v H g hd acc aw a h' Nx l x r e hz hN => ?_) fun H2 g2 acc x l => ?_
  · -- a turn
    unfold lcStep at e
    split at e
    · cases e
    · rename_i σd2 em
      refine ⟨w', _, hd, g.gd D, l.guard, Sr.mono (g := g) (g' := g.gd D) (fun _ h => h) rfl (s2.ext x), Rels.mono (g := g) (g' := g.gd D) (fun _ h => h) rfl r, σd2, em, fun σ2 s2 hw => ⟨(hw vs his).trans (wipe_wipe σ vs), ?_⟩⟩
      split at e
      · rename_i h3 et
        split at e
        · rename_i w4 h4 eme
          cases e
          refine ⟨σd2, hd, g.gd D, l.guard, s2, xok_of et, fun b h3' et' H3 g3 x3 k3 => ?_⟩
          rw [et] at et'
          cases et'
          refine ⟨σd2, h3, g3, k3, s2.ext x3, xok_of eme, fun w4' h4' eme' y H4 g4 x4 k4 r4 => ?_⟩
          rw [eme] at eme'
          cases eme'
          obtain ⟨x5, l5⟩ := l.unguard (x3.trans x4) k4
          obtain ⟨x6, l6⟩ := l5.put (Rels.mono (g := g4) (g' := g4.un g) (fun _ h => h) rfl r4)
          exact ⟨acc, l5.hD, Nat.lt_of_lt_of_le (show acc.length < 16777216 by simp only [List.length_cons, List.length_nil] at hz; omega) line_lit, hN _ _ _ (x5.trans x6) l6⟩
        · cases e
      · rename_i h3 et
        cases e
        refine ⟨σd2, hd, g.gd D, l.guard, s2, xok_of et, fun b h3' et' H3 g3 x3 k3 => ?_⟩
        rw [et] at et'
        cases et'
        obtain ⟨x5, l5⟩ := l.unguard x3 k3
        rw [List.append_nil] at hN
        exact hN _ _ _ x5 l5
      · cases e
  · obtain ⟨g3, x3, k3, r3⟩ := fin D H2 g2 acc l
    exact q w h2 (by rw [e1]; exact ee) _ _ _ (((x1.trans x2).trans x).trans x3) k3 r3
theorem lcEnd_ok {σ : St} {r : R (List W)} {H1 : Hp} {g1 : G} (hx : XOk X Wx σ H1 g1 (lcEnd r)) : ∃ ws hd' w h2, r = .ok ws hd' ∧ ws.length ≤ 16777216 ∧ lcEnd r = .ok w h2 ∧ ∀ D H2 g2 acc, LI X.K X.tb D H2 g2 hd' acc ws → ∃ g3, Ext H2 g2 H2 g3 ∧ Hr X.K X.tb H2 g3 h2 ∧ Rel X.K X.tb H2 g3 w (.ref D) := by
  cases r with
  | ok ws h =>
    unfold lcEnd at hx ⊢
    dsimp only at hx ⊢
    split at hx
    · rename_i hz
      rw [if_pos hz]
      exact ⟨ws, h, _, _, rfl, hz, rfl, fun D H2 g2 acc l => ⟨_, l.frz⟩⟩
    · exact hx.elim
  | exc c h => exact hx.elim
  | bad => exact hx.elim
theorem lcEndN_ok {σ : St} {r : R (List W)} {H1 : Hp} {g1 : G} (hx : XOk X Wx σ H1 g1 (lcEndN r)) : ∃ ws hd' w h2, r = .ok ws hd' ∧ ws.length ≤ 16777216 ∧ lcEndN r = .ok w h2 ∧ ∀ D H2 g2 acc, LI X.K X.tb D H2 g2 hd' acc ws → ∃ g3, Ext H2 g2 H2 g3 ∧ Hr X.K X.tb H2 g3 h2 ∧ Rel X.K X.tb H2 g3 w (.ref D) := by
  cases r with
  | ok ws h =>
    unfold lcEndN at hx ⊢
    dsimp only at hx ⊢
    split at hx
    · rename_i hz
      rw [if_pos hz]
      exact ⟨ws, h, _, _, rfl, hz, rfl, fun D H2 g2 acc l => ⟨_, l.own⟩⟩
    · exact hx.elim
  | exc c h => exact hx.elim
  | bad => exact hx.elim
variable {elt tg iter : Expr} {ifs : List Expr} {scope : Scope} {own : List (Str × Nat)} {pos : Pos}
/-- what the block's parts say -/
structure LcB (X : Cx) (elt tg iter : Expr) (ifs : List Expr) (scope : Scope) (own : List (Str × Nat)) (gm : W → Sg → Hd → Option Sg) (is : List Nat) (mt : Sg → Hd → R Bool) (me : Sg → Hd → R W) : Prop where
  hc : X.calm = true
  hN : X.N.Nodup
  ok : BlkOk X.N X.env.scope scope own
  his : ∀ i ∈ is, i ∈ own.map (·.2)
  hs : ∀ x, foldedSetIterable iter X.env x = pure x
  b : ∀ (s : Shared) (H : Hp) (C : Addr) (cl : List (Str × Addr)) (fp : List Addr), SC (X.blk s H scope (compEnvC scope cl C X.env) fp) tg gm is ∧ PTs (X.blk s H scope (compEnvC scope cl C X.env) fp) ifs (tT (X.blk s H scope (compEnvC scope cl C X.env) fp) WF mt) ∧ SE (X.blk s H scope (compEnvC scope cl C X.env) fp) WF elt me
theorem s_lc (B : LcB X elt tg iter ifs scope own gm is mt me) (hi : SI X Wx tg iter mi) : SE X Wx (.ListComp elt [⟨tg, iter, ifs, 0⟩] scope pos) (mLc (own.map (·.2)) mi gm mt me) :=
  ⟨fun pins s σ H Q I ⟨σd, hd, g, k, sr, hx, q⟩ => (pe_lc (g := tCg X gm is) (tt := tT X WF mt) (te := tE X WF me) B.hc B.hN hi B.ok (fun s H C cl fp => (B.b s H C cl fp).1) (fun s H C cl fp => (B.b s H C cl fp).2.1) (fun s H C cl fp => (B.b s H C cl fp).2.2) B.hs).run pins s σ H Q I
    (lc_core (end_ := lcEnd) B.his k sr hx q lcEnd_ok)⟩
theorem s_lcN (B : LcB X elt tg iter ifs scope own gm is mt me) (hi : SI X Wx tg iter mi) : SE X Wx (.ListComp elt [⟨tg, iter, ifs, 0⟩] scope pos) (mLcN (own.map (·.2)) mi gm mt me) :=
  ⟨fun pins s σ H Q I ⟨σd, hd, g, k, sr, hx, q⟩ => (pe_lc (g := tCg X gm is) (tt := tT X WF mt) (te := tE X WF me) B.hc B.hN hi B.ok (fun s H C cl fp => (B.b s H C cl fp).1) (fun s H C cl fp => (B.b s H C cl fp).2.1) (fun s H C cl fp => (B.b s H C cl fp).2.2) B.hs).run pins s σ H Q I
    (lc_core (end_ := lcEndN) B.his k sr hx q lcEndN_ok)⟩
/-- name = [..] on one row -/
theorem s_setLcG {end_ : R (List W) → R W} {i : Nat} {y : Str} {py spos : Pos} (B : LcB X elt tg iter ifs scope own gm is mt me) (hi : SI X Wx tg iter mi)
    (hE : ∀ {σ : St} {r : R (List W)} {H1 : Hp} {g1 : G}, XOk X Wx σ H1 g1 (end_ r) → ∃ ws hd' w h2, r = .ok ws hd' ∧ ws.length ≤ 16777216 ∧ end_ r = .ok w h2 ∧ ∀ D H2 g2 acc, LI X.K X.tb D H2 g2 hd' acc ws → ∃ g3, Ext H2 g2 H2 g3 ∧ Hr X.K X.tb H2 g3 h2 ∧ Rel X.K X.tb H2 g3 w (.ref D))
    (hy : X.N[i]? = some y) (hyl : X.env.scope.names.lookup y = some .local)
    (hsw : swapsWith (.ListComp elt [⟨tg, iter, ifs, 0⟩] scope pos) (some (.Name y py)) spos.line X.env = pure true) :
    SS X Wx (.Assign [.Name y py] (.ListComp elt [⟨tg, iter, ifs, 0⟩] scope pos) spos) (mSet i fun σ h => (mi σ h).bind fun it h1 => end_ (lcRun (lcStep gm mt me (wipeS σ (own.map (·.2)))) it h1)) :=
  PSwk (ps_setLc (g := tCg X gm is) (tt := tT X WF mt) (te := tE X WF me) B.hc B.hN hy hyl hsw hi B.ok (fun s H C cl fp => (B.b s H C cl fp).1) (fun s H C cl fp => (B.b s H C cl fp).2.1) (fun s H C cl fp => (B.b s H C cl fp).2.2) B.hs)
    fun D σ H ⟨σd, hd, g, k, sr, ok⟩ => lc_core (end_ := end_) B.his k sr (st_x k sr ok) (fun w h1 e v H1 g1 x k1 r1 => st_o ok e x _ _ _ (.refl _ _) k1 ((sr.ext x).set i r1)) hE
theorem s_setLc {i : Nat} {y : Str} {py spos : Pos} (B : LcB X elt tg iter ifs scope own gm is mt me) (hi : SI X Wx tg iter mi) (hy : X.N[i]? = some y) (hyl : X.env.scope.names.lookup y = some .local)
    (hsw : swapsWith (.ListComp elt [⟨tg, iter, ifs, 0⟩] scope pos) (some (.Name y py)) spos.line X.env = pure true) : SS X Wx (.Assign [.Name y py] (.ListComp elt [⟨tg, iter, ifs, 0⟩] scope pos) spos) (mSet i (mLc (own.map (·.2)) mi gm mt me)) :=
  s_setLcG B hi lcEnd_ok hy hyl hsw
theorem s_setLcN {i : Nat} {y : Str} {py spos : Pos} (B : LcB X elt tg iter ifs scope own gm is mt me) (hi : SI X Wx tg iter mi) (hy : X.N[i]? = some y) (hyl : X.env.scope.names.lookup y = some .local)
    (hsw : swapsWith (.ListComp elt [⟨tg, iter, ifs, 0⟩] scope pos) (some (.Name y py)) spos.line X.env = pure true) : SS X Wx (.Assign [.Name y py] (.ListComp elt [⟨tg, iter, ifs, 0⟩] scope pos) spos) (mSet i (mLcN (own.map (·.2)) mi gm mt me)) :=
  s_setLcG B hi lcEndN_ok hy hyl hsw
end
end EV

set_option Elab.async false
set_option linter.all false
set_option maxRecDepth 100000
set_option maxHeartbeats 4000000
namespace EV
open PySem PySem.Spec L2

/-! ## generator expressions within all, any -/
/-- the context of the expression's body -/
abbrev gcx (X : Cx) (A' : Around) (s : Shared) (H : Hp) (cenv : Env) (fp : List Addr) : Cx :=
  { X with A := A', s_0 := s, H_0 := H, env := cenv, outer := X.stack, stack := cenv :: X.stack, ex := fp, fn := fun _ => false, pn := [], xe := fun _ _ => False }
structure GenOk (N : List Str) (sc scope : Scope) (own : List (Str × Nat)) : Prop where
  b : BlkOk N sc scope own
  co : scope.isCoroutine = false
  cell : ∀ y ∈ scope.names, y.2 ≠ .cell
  dot : scope.names.lookup (".0" : Str) = some NameKind.local
def genC (N : List Str) (sc scope : Scope) (own : List (Str × Nat)) : Bool :=
  blkC N sc scope own && !scope.isCoroutine && (scope.names.all fun y => !decide (y.2 = .cell)) && decide (scope.names.lookup (".0" : Str) = some NameKind.local)
theorem genOk_by {N : List Str} {sc scope : Scope} {own : List (Str × Nat)} (h : genC N sc scope own = true) : GenOk N sc scope own := by
  unfold genC at h
  simp only [Bool.and_eq_true, Bool.not_eq_true', List.all_eq_true, decide_eq_true_eq, decide_eq_false_iff_not] at h
  obtain ⟨⟨⟨h1, h2⟩, h3⟩, h4⟩ := h
  exact ⟨blkOk_by h1, h2, h3, h4⟩
abbrev gEnv (X : Cx) (scope : Scope) (C : Addr) (code : Value) : Env := genEnv scope (cloFrom X.env.cells scope.names []) C code builtinsNs X.env
section
variable {X : Cx} {pins : List (Addr × Obj)} {σ : St} {H : Hp} {s : Shared} {scope : Scope} {own : List (Str × Nat)}
theorem gen_start {fp : List Addr} {A' : Around} {code : Value} {h5 : Heap} {g' : Array GenState} {d' : Drawn} {tk : Nat} {a : Addr} {oa : Obj} {m0 : Str → Option Value} (I : Inv X pins σ H s) (ok : GenOk X.N X.env.scope scope own) (hN : X.N.Nodup)
    (hA : A'.handled = none) (hfr : A'.frames = some (gEnv X scope s.heap.objs.size code :: X.stack)) (hfp : ∀ b ∈ fp, FpOk X pins H b ∧ b < s.heap.objs.size) (hn : h5.Ns s.heap.objs.size m0) (kp : ∀ b o, s.heap.get? b = some o → h5.get? b = some o)
    (hg : PyProof.Rows.AllBare g') (ha : h5.get? a = some oa) (hlt : s.heap.objs.size < a) (hca : ∀ v, oa.data ≠ .cell v) :
    Inv (gcx X A' s H (gEnv X scope s.heap.objs.size code) fp) [(a, oa)] (wipe σ (own.map (·.2))) H { s with heap := h5, gens := g', drawn := d', toks := tk } := by
  have free_ : ∀ {y : Str}, scope.names.lookup y = some .free → ∃ c, X.env.cells.lookup y = some c := fun {y} e => by
    rcases ok.b.free _ (PySem.mem_of_lookup e) rfl with k | k
    · exact I.ok.has _ (.inl k)
    · exact I.ok.has _ (.inr k)
  have cellOf : ∀ {y : Str} {c : Addr}, (cloFrom X.env.cells scope.names []).lookup y = some c → X.env.cells.lookup y = some c := fun {y c} e => by
    rcases cloFrom_mem (PySem.mem_of_lookup e) with z | ⟨h1, rfl⟩
    · cases z
    · obtain ⟨c, e2⟩ := free_ (ok.b.uniq _ h1)
      rw [e2]; rfl
  have hasCl : ∀ {y : Str}, scope.names.lookup y = some .free → ∃ c, (cloFrom X.env.cells scope.names []).lookup y = some c := fun {y} e => mem_lookup (cloFrom_has (PySem.mem_of_lookup e))
  have noCell : ∀ {y : Str}, scope.names.lookup y ≠ some .cell := fun {y} e => ok.cell _ (PySem.mem_of_lookup e) rfl
  have cLt : ∀ {y : Str} {c : Addr}, X.env.cells.lookup y = some c → c < s.heap.objs.size := fun {y c} e => let ⟨v, q⟩ := I.cell y c e; q.lt
  have okG : (gcx X A' s H (gEnv X scope s.heap.objs.size code) fp).Ok := by
    refine ⟨I.ok.mod, ok.b.kind, I.ok.glob, rfl, Nat.le_refl _, fun y z c e1 e2 => I.ok.inj y z c (cellOf e1) (cellOf e2), fun y hy => ?_, fun y c z _ => absurd z Bool.false_ne_true, fun _ => hA, hfr, .inr ⟨rfl, rfl⟩, fun b hb => ⟨Nat.ne_of_lt (hfp b hb).2, fun y c e z => ?_⟩, I.bs, Nat.le_trans I.ok.bsz I.sz, fun b o e hb => ?_, fun b hb z => ?_, I.stack, I.stkFree⟩
    · rcases hy with hy | hy
      · exact absurd hy noCell
      · exact hasCl hy
    · exact (hfp b hb).1.2.2.2.2.1 y c (cellOf e) z
    · rcases (hfp b hb).1.2.2.2.1 with z | z
      · exact I.ok.noex b o e z
      · exact absurd (Nat.lt_of_lt_of_le (Heap.lt_size e) (Nat.le_trans I.ok.bsz z)) (Nat.lt_irrefl _)
    · rcases List.mem_cons.mp (I.stkSub b z) with z | z
      · exact (hfp b hb).1.2.1 z
      · exact (hfp b hb).1.2.2.1 z
  refine ⟨okG, rfl, hg, Un.kept kp, ⟨m0, hn, fun i y av e1 e2 e3 => ?_⟩, fun y c e => ?_, I.hok.fresh (Nat.le_refl _), fun y c e => I.freeC y c (cellOf e), fun p hp => ?_, I.hok.kept kp, by rw [wipe_length]; exact I.len⟩
  · obtain ⟨e2, hne⟩ := wipe_some e2
    have e4 : scope.names.lookup y = some .free := by
      have no : ∀ k, scope.names.lookup y = some k → k = .local ∨ k = .cell → False := fun k hk hh => by
        rcases ok.b.own _ (PySem.mem_of_lookup hk) hh with e' | e'
        · obtain ⟨p, hp, hpy⟩ := List.mem_map.mp e'
          have e5 := ok.b.ix p hp
          have e6 : p.1 = y := hpy
          rw [e6] at e5
          exact hne (List.mem_map.mpr ⟨p, hp, nodup_ix hN e5 e1⟩)
        · exact e' (List.mem_of_getElem? e1)
      rcases e3 with e3 | e3 | e3
      · exact (no _ e3 (.inl rfl)).elim
      · exact (no _ e3 (.inr rfl)).elim
      · exact e3
    obtain ⟨m, hm, hl⟩ := I.loc
    have hvis : Vis X.env.scope y := (ok.b.free _ (PySem.mem_of_lookup e4) rfl).elim (fun k => .inr (.inl k)) (fun k => .inr (.inr k))
    obtain ⟨w, r, q⟩ := hl i y av e1 e2 hvis
    obtain ⟨c, e5⟩ := hasCl e4
    refine ⟨w, r, .inr ⟨.inr e4, c, e5, ?_⟩⟩
    rcases q with ⟨k, _⟩ | ⟨_, c', e', z⟩
    · have k : X.env.scope.names.lookup y = some .local := k
      rcases ok.b.free _ (PySem.mem_of_lookup e4) rfl with k' | k' <;> rw [show X.env.scope.names.lookup y = _ from k'] at k <;> cases k
    · rw [cellOf e5] at e'
      cases e'
      exact z.keeps kp
  · obtain ⟨v, z⟩ := I.cell y c (cellOf e)
    exact ⟨v, z.keeps kp⟩
  · have e : p = (a, oa) := by simpa using (show p ∈ ([] : List (Addr × Obj)) ++ [(a, oa)] from hp)
    rw [e]
    exact ⟨ha, I.hok.fresh (Nat.le_of_lt hlt), Nat.ne_of_gt hlt, fun hm => (List.mem_cons.mp (I.stkSub a hm)).elim (Nat.ne_of_gt (Nat.lt_trans I.lt hlt)) (I.nofs (Nat.le_of_lt hlt)), hca⟩
/-- the table of generators is another -/
theorem Inv.gens' {s' : Shared} (I : Inv X pins σ H s) (hh : s'.heap = s.heap) (ho : s'.os = s.os) (hb : PyProof.Rows.AllBare s'.gens) : Inv X pins σ H s' := by
  refine ⟨I.ok, ho.trans I.os, hb, ?_, ?_, ?_, I.free, I.freeC, ?_, ?_, I.len⟩
  · rw [hh]; exact I.base
  · rw [hh]; exact I.loc
  · rw [hh]; exact I.cell
  · rw [hh]; exact I.pin
  · rw [hh]; exact I.hok
end

/-! ### the consumer's loop -/
section
variable {prog : Program} {w : World} {A : Around}
/-- n: a measure; Rd: ready; T: exhausted; S: stopped -/
theorem all_loop {a : Addr} {Rd : Nat → Shared → Prop} {T S : Shared → Prop}
    (hN : ∀ n s, Rd n s → wpAny (model prog w) A.in1 (pyNext (.ref a)) (fun r s1 => (r = none ∧ T s1) ∨ ∃ b, r = some (.bool b) ∧ ((b = true ∧ ∃ m, m < n ∧ Rd m s1) ∨ (b = false ∧ S s1))) (fun _ _ => False) s) :
    ∀ (n : Nat) (s : Shared) (R : Result → Shared → Prop), Rd n s → (∀ s', T s' → R (.ok (.ret (.bool true))) s') → (∀ s', S s' → R (.ok (.ret (.bool false))) s') → codeAny (model prog w) A (.builtin "all.loop" ⟨[.ref a], []⟩) R s := by
  intro n
  induction n using Nat.strongRecOn with
  | ind n ih =>
    intro s R hr hT hS
    refine codeAny_builtin F.entry_all_loop ?_
    rw [Around.under_plainId F.plain_all_loop _]
    show wpAny _ A.in1 (pyNext (.ref a) >>= _) _ _ s
    refine wpAny_bind (wpAny_mono (hN n s hr) (fun r s1 h => ?_) fun _ _ z => z.elim)
    rcases h with ⟨rfl, h⟩ | ⟨b, rfl, h⟩
    · exact wpAny_bind (wpAny_rule (wpAny_pure (hT s1 h)))
    · refine wpAny_bind (wpAny_holding (wpAny_truthy_bool ?_))
      refine wpAny_bind (wpAny_letGo ?_)
      rcases h with ⟨rfl, m, hm, h⟩ | ⟨rfl, h⟩
      · simp only [if_true]
        exact wpAny_pure ⟨plainId_quiet F.plain_all_loop _, ih m hm s1 R h hT hS⟩
      · simp only [Bool.false_eq_true, if_false]
        exact wpAny_bind (wpAny_rule (wpAny_pure (hS s1 h)))
theorem any_loop {a : Addr} {Rd : Nat → Shared → Prop} {T S : Shared → Prop}
    (hN : ∀ n s, Rd n s → wpAny (model prog w) A.in1 (pyNext (.ref a)) (fun r s1 => (r = none ∧ T s1) ∨ ∃ b, r = some (.bool b) ∧ ((b = false ∧ ∃ m, m < n ∧ Rd m s1) ∨ (b = true ∧ S s1))) (fun _ _ => False) s) :
    ∀ (n : Nat) (s : Shared) (R : Result → Shared → Prop), Rd n s → (∀ s', T s' → R (.ok (.ret (.bool false))) s') → (∀ s', S s' → R (.ok (.ret (.bool true))) s') → codeAny (model prog w) A (.builtin "any.loop" ⟨[.ref a], []⟩) R s := by
  intro n
  induction n using Nat.strongRecOn with
  | ind n ih =>
    intro s R hr hT hS
    refine codeAny_builtin F.entry_any_loop ?_
    rw [Around.under_plainId F.plain_any_loop _]
    show wpAny _ A.in1 (pyNext (.ref a) >>= _) _ _ s
    refine wpAny_bind (wpAny_mono (hN n s hr) (fun r s1 h => ?_) fun _ _ z => z.elim)
    rcases h with ⟨rfl, h⟩ | ⟨b, rfl, h⟩
    · exact wpAny_bind (wpAny_rule (wpAny_pure (hT s1 h)))
    · refine wpAny_bind (wpAny_holding (wpAny_truthy_bool ?_))
      refine wpAny_bind (wpAny_letGo ?_)
      rcases h with ⟨rfl, m, hm, h⟩ | ⟨rfl, h⟩
      · simp only [Bool.false_eq_true, if_false]
        exact wpAny_pure ⟨plainId_quiet F.plain_any_loop _, ih m hm s1 R h hT hS⟩
      · simp only [if_true]
        exact wpAny_bind (wpAny_rule (wpAny_pure (hS s1 h)))
end

/-! ### the walk by worth -/
def qStep (gm : W → Sg → Hd → Option Sg) (mt : Sg → Hd → R Bool) (me : Sg → Hd → R W) (σ : Sg) : W → Hd → R (Option Bool) := fun x h => match gm x σ h with
  | none => .bad
  | some σ2 => match mt σ2 h with
    | .ok true h3 => match me σ2 h3 with
      | .ok (.bl b) h4 => .ok (some b) h4
      | _ => .bad
    | .ok false h3 => .ok none h3
    | _ => .bad
def qL (cont : Bool) (step : W → Hd → R (Option Bool)) : List W → Hd → R Bool
  | [], h => .ok cont h
  | x :: xs, h => (step x h).bind fun o h1 => if o = some (!cont) then .ok (!cont) h1 else qL cont step xs h1
def qV (cont : Bool) (step : W → Hd → R (Option Bool)) (l : Nat) : Nat → Nat → Hd → R Bool
  | 0, _, _ => .bad
  | n + 1, i, h => match h[l]? with
    | some (.lst xs) => match xs[i]? with
      | some x => (step x h).bind fun o h1 => if o = some (!cont) then .ok (!cont) h1 else qV cont step l n (i + 1) h1
      | none => .ok cont h
    | _ => .bad
def qRun (cont : Bool) (step : W → Hd → R (Option Bool)) : Iw → Hd → R Bool
  | .sq ws, h => qL cont step ws h
  | .lv l, h => qV cont step l 1099511627776 0 h
/-- what is left to do -/
def QRem (cont : Bool) (step : W → Hd → R (Option Bool)) (it : Iw) (res : Bool) (hE : Hd) : Nat → Nat → Hd → Prop
  | 0, i, h => ∃ ws, itAt h it = some ws ∧ ws[i]? = none ∧ res = cont ∧ hE = h
  | n + 1, i, h => ∃ ws, itAt h it = some ws ∧ ((ws[i]? = none ∧ res = cont ∧ hE = h) ∨ ∃ w o h1, ws[i]? = some w ∧ step w h = .ok o h1 ∧ ((o = some (!cont) ∧ res = (!cont) ∧ hE = h1) ∨ (o ≠ some (!cont) ∧ QRem cont step it res hE n (i + 1) h1)))
theorem qrem_sq {cont : Bool} {step : W → Hd → R (Option Bool)} {ws : List W} {res : Bool} {hE : Hd} : ∀ (n i : Nat) (h : Hd), ws.length - i = n → qL cont step (ws.drop i) h = .ok res hE → QRem cont step (.sq ws) res hE n i h
  | 0, i, h, hn, e => by
    have hi : ws.length ≤ i := by omega
    rw [List.drop_eq_nil_of_le hi] at e
    cases e
    exact ⟨ws, rfl, by simpa using hi, rfl, rfl⟩
  | n + 1, i, h, hn, e => by
    have hi : i < ws.length := by omega
    rw [List.drop_eq_getElem_cons hi] at e
    obtain ⟨o, h1, e1, e2⟩ := bind_ok e
    refine ⟨ws, rfl, .inr ⟨ws[i], o, h1, List.getElem?_eq_getElem hi, e1, ?_⟩⟩
    split at e2
    · rename_i ho
      cases e2
      exact .inl ⟨ho, rfl, rfl⟩
    · rename_i ho
      exact .inr ⟨ho, qrem_sq n (i + 1) h1 (by omega) e2⟩
theorem qrem_lv {cont : Bool} {step : W → Hd → R (Option Bool)} {l : Nat} {res : Bool} {hE : Hd} : ∀ (n i : Nat) (h : Hd), qV cont step l n i h = .ok res hE → QRem cont step (.lv l) res hE n i h
  | 0, i, h, e => by cases e
  | n + 1, i, h, e => by
    unfold qV at e
    split at e
    · rename_i xs q
      have ea : itAt h (.lv l) = some xs := by unfold itAt; dsimp only; rw [q]
      split at e
      · rename_i w ew
        obtain ⟨o, h1, e1, e2⟩ := bind_ok e
        refine ⟨xs, ea, .inr ⟨w, o, h1, ew, e1, ?_⟩⟩
        split at e2
        · rename_i ho
          cases e2
          exact .inl ⟨ho, rfl, rfl⟩
        · rename_i ho
          exact .inr ⟨ho, qrem_lv n (i + 1) h1 e2⟩
      · rename_i ew
        cases e
        exact ⟨xs, ea, .inl ⟨ew, rfl, rfl⟩⟩
    · cases e
theorem qrem_run {cont : Bool} {step : W → Hd → R (Option Bool)} {it : Iw} {res : Bool} {h hE : Hd} (e : qRun cont step it h = .ok res hE) : ∃ n, QRem cont step it res hE n 0 h := by
  cases it with
  | sq ws => exact ⟨ws.length, qrem_sq _ 0 h (by simp) e⟩
  | lv l => exact ⟨_, qrem_lv _ 0 h e⟩
end EV

set_option Elab.async false
set_option linter.all false
set_option maxRecDepth 100000
set_option maxHeartbeats 4000000
namespace EV
open PySem PySem.Spec L2

/-! ## the body of a generator expression -/
section
variable {Y : Cx} {A1 : Around} {elt tg iter : Expr} {ifs : List Expr} {scope : Scope} {gpos : Pos} {it : Addr} {fp : List Addr} {tn : Nat → Heap → Prop} {J : It} {iw : Iw} {pa : Addr × Obj}
  {gm : W → Sg → Hd → Option Sg} {is : List Nat} {mt : Sg → Hd → R Bool} {me : Sg → Hd → R W} {vs : List Nat} {sd : Sg} {st : St} {H1 : Hp} {g1 : G} {cont res : Bool} {hE : Hd}
def gFin (Y : Cx) (pa : Addr × Obj) (H1 : Hp) (g1 : G) (hE : Hd) (s : Shared) : Prop := ∃ σ H g, Inv Y [pa] σ H s ∧ Ext H1 g1 H g ∧ Hr Y.K Y.tb H g hE
def gR (Y : Cx) (pa : Addr × Obj) (H1 : Hp) (g1 : G) (hE : Hd) (cont res : Bool) : Nat → Shared → Shared → Prop := fun _ _ s => res = cont ∧ gFin Y pa H1 g1 hE s
def gY (Y : Cx) (pa : Addr × Obj) (H1 : Hp) (g1 : G) (hE : Hd) (cont res : Bool) : Protocol := fun _ _ v s kap =>
  ∃ b, v = .bool b ∧ ((b = (!cont) ∧ res = (!cont) ∧ gFin Y pa H1 g1 hE s) ∨ (b = cont ∧ (∃ σ H, Inv Y [pa] σ H s) ∧ ∀ s'' : Shared, s''.heap = s.heap → s''.os = s.os → PyProof.Rows.AllBare s''.gens → kap (.send .none) s''))
/-- at the head of a turn -/
def gI (Y : Cx) (pa : Addr × Obj) (fp : List Addr) (tn : Nat → Heap → Prop) (st : St) (H1 : Hp) (g1 : G) (i : Nat) (h : Hd) (s : Shared) : Prop :=
  ∃ H g, Inv Y [pa] st H s ∧ tn i s.heap ∧ (∀ b ∈ fp, H b = none) ∧ Ext H1 g1 H g ∧ Hr Y.K Y.tb H g h
abbrev gCode (elt tg iter : Expr) (ifs : List Expr) (scope : Scope) (gpos : Pos) (it : Addr) (env : Env) : Code := .compLoop (.GeneratorExp elt [⟨tg, iter, ifs, 0⟩] scope gpos) 0 (.ref it) .none env
theorem gen_seg (hA : A1.over (gCode elt tg iter ifs scope gpos it Y.env) [] = Y.A) (hc : Y.calm = true) (hco : Y.env.scope.isCoroutine = false) (T : Turn Y.prog Y.w Y.K tg J fp it tn) (hfx : ∀ b ∈ fp, b ∈ Y.ex) (hpn : Y.pn = []) (hpa : ∀ b ∈ fp, pa.1 ≠ b) (hxe : Y.xe = fun _ _ => False)
    (ir : ItR Y.K Y.tb H1 g1 iw J) (hg : SC Y tg gm is) (his : ∀ i ∈ is, i ∈ vs) (ht : PTs Y ifs (tT Y WF mt)) (he : SE Y WF elt me) (hw : wipe st vs = st) (sr : Sr Y.K Y.tb H1 g1 sd st) :
    ∀ (n i : Nat) (h : Hd), QRem cont (qStep gm mt me sd) iw res hE n i h → ∀ (N : Nat), n ≤ N → ∀ (s₀ s : Shared), gI Y pa fp tn st H1 g1 i h s →
      Seg (model Y.prog Y.w) A1 (fun n s₀ r s₁ => r = .ok .next ∧ gR Y pa H1 g1 hE cont res n s₀ s₁) (gY Y pa H1 g1 hE cont res) N s₀ (gCode elt tg iter ifs scope gpos it Y.env) ((model Y.prog Y.w).den (gCode elt tg iter ifs scope gpos it Y.env)) [] s := by
  have stat : ∀ {σ' : St} {H' : Hp} {s' : Shared}, Inv Y [pa] σ' H' s' → (∀ b ∈ fp, H' b = none) → ∀ b ∈ fp, FpOk Y [pa] H' b := fun {σ' H' s'} I' hn b hb =>
    ⟨hn b hb, (I'.ok.exf b (hfx b hb)).1, I'.ok.exfs b (hfx b hb), .inl (hfx b hb), fun x c e => (I'.ok.exf b (hfx b hb)).2 x c e, fun p hp => by
      rw [hpn] at hp
      have e : p = pa := by simpa using hp
      rw [e]; exact hpa b hb⟩
  have done : ∀ {i : Nat} {h : Hd} {N : Nat} {s₀ s : Shared} {ws : List W}, gI Y pa fp tn st H1 g1 i h s → itAt h iw = some ws → ws[i]? = none → res = cont → hE = h →
      Seg (model Y.prog Y.w) A1 (fun n s₀ r s₁ => r = .ok .next ∧ gR Y pa H1 g1 hE cont res n s₀ s₁) (gY Y pa H1 g1 hE cont res) N s₀ (gCode elt tg iter ifs scope gpos it Y.env) ((model Y.prog Y.w).den (gCode elt tg iter ifs scope gpos it Y.env)) [] s := by
    intro i h N s₀ s ws ⟨H, g, I, ti, fr, x, k⟩ ea ew er eh
    have stop := (ir H g h ws x.w k ea i).1 (by simpa using ew)
    show Seg _ A1 _ _ _ s₀ _ ((compTurn (.GeneratorExp elt [⟨tg, iter, ifs, 0⟩] scope gpos) 0 (.ref it) .none Y.env).onRaise (leaving Y.env)) [] s
    rw [compTurn_gen, Sem.onRaise_eq_wrap]
    refine seg_bind_wrap (wpAny_standAt ?_)
    refine seg_bind_wrap ?_
    rw [hA]
    refine wpAny_mono (T.done Y rfl rfl rfl hc i [pa] s st H (fun _ _ => False) I (stat I fr) ti stop) (fun r s1 ⟨hr, I1⟩ => ?_) fun _ _ z => False.elim z
    subst hr
    exact seg_end (.ok .next) ⟨rfl, er, st, H, g, I1, x, by rw [eh]; exact k⟩
  intro n
  induction n with
  | zero =>
    intro i h ⟨ws, ea, ew, er, eh⟩ N _ s₀ s hI
    exact done hI ea ew er eh
  | succ n ih =>
    intro i h ⟨ws, ea, hq⟩ N hN s₀ s hI
    rcases hq with ⟨ew, er, eh⟩ | ⟨w, o, h1, ew, es, hq⟩
    · exact done hI ea ew er eh
    obtain ⟨H, g, I, ti, fr, x, k⟩ := hI
    obtain ⟨go, yl⟩ := (ir H g h ws x.w k ea i).2 w ew
    show Seg _ A1 _ _ _ s₀ _ ((compTurn (.GeneratorExp elt [⟨tg, iter, ifs, 0⟩] scope gpos) 0 (.ref it) .none Y.env).onRaise (leaving Y.env)) [] s
    rw [compTurn_gen, Sem.onRaise_eq_wrap]
    refine seg_bind_wrap (wpAny_standAt ?_)
    refine seg_bind_wrap ?_
    rw [hA]
    refine wpAny_mono (T.item Y rfl rfl rfl hc i [pa] s st H (fun _ _ => False) I (stat I fr) ti go) (fun r s1 ⟨u, hr, h1'⟩ => ?_) fun _ _ z => False.elim z
    subst hr
    refine seg_bind_wrap ?_
    rw [hA]
    refine wpAny_mono h1' (fun _ s2 ⟨xv, H2, I2, r2, y2, t2, f2⟩ => ?_) fun _ _ z => False.elim z
    obtain ⟨g2, x2, k2, rr2⟩ := yl xv H2 y2
    have I2' := I2.pinned (stat I2 f2) (T.obj _ _ t2)
    unfold qStep at es
    split at es
    · cases es
    rename_i σd2 em
    refine seg_bind_wrap ?_
    rw [hA]
    refine wpAny_mono (hg.run _ s2 st H2 xv u (fun σ2 H' => H' = H2 ∧ Sr Y.K Y.tb H2 g2 σd2 σ2 ∧ wipe σ2 vs = st) I2' r2 ⟨w, sd, h, g2, k2, (sr.ext x).ext x2, rr2, σd2, em, fun σ2 s2' hw2 => ⟨rfl, s2', (hw2 vs his).trans hw⟩⟩) (fun _ s3 ⟨σ3, H3, I3, eH, s3r, hw3⟩ => ?_) (by rw [hxe]; exact fun _ _ z => False.elim z)
    subst eH
    -- the tests
    have mtOk : ∃ b h3, mt σd2 h = .ok b h3 := by
      cases q : mt σd2 h with
      | ok b h3 => exact ⟨b, h3, rfl⟩
      | _ => rw [q] at es; cases es
    obtain ⟨b, h3, em2⟩ := mtOk
    rw [em2] at es
    refine seg_bind_wrap ?_
    rw [hA]
    refine wpAny_mono (ht.run _ s3 σ3 H3 (fun b' H' => b' = b ∧ ∃ g', Ext H3 g2 H' g' ∧ Hr Y.K Y.tb H' g' h3) I3 ⟨σd2, h, g2, k2, s3r, xok_of em2, fun b' h3' e H' g' x' k' => by rw [em2] at e; cases e; exact ⟨rfl, g', x', k'⟩⟩) (fun b' s4 ⟨H4, I4, eb, g4, x4, k4⟩ => ?_) (by rw [hxe]; exact fun _ _ z => False.elim z)
    subst eb
    have pin' : ∀ {σ' : St} {H' : Hp} {s' : Shared}, Inv Y ([pa] ++ pinsAt fp s2.heap) σ' H' s' → (∀ b ∈ fp, ∀ o, s2.heap.get? b = some o → s'.heap.get? b = some o ∧ H' b = none) := fun {σ' H' s'} I' b hb o e =>
      let z := I'.pin (b, o) (List.mem_append_right _ (List.mem_append_right _ (mem_pinsAt hb e)))
      ⟨z.1, z.2.1⟩
    have back : ∀ {H' : Hp} {g' : G} {h' : Hd} {s' s'' : Shared}, Inv Y ([pa] ++ pinsAt fp s2.heap) σ3 H' s' → s''.heap = s'.heap → s''.os = s'.os → PyProof.Rows.AllBare s''.gens → Ext H1 g1 H' g' → Hr Y.K Y.tb H' g' h' → gI Y pa fp tn st H1 g1 (i + 1) h' s'' := fun {H' g' h' s' s''} I' e1 e2 e3 x' k' => by
      have hl : st.length = σ3.length := by rw [← hw3, wipe_length]
      refine ⟨H', g', Inv.gens' ((I'.unpinned (pins := [pa])).weak hl fun j v e => ?_) e1 e2 e3, ?_, fun b hb => ?_, x', k'⟩
      · rw [← hw3] at e
        exact (wipe_some e).1
      · rw [e1]
        exact T.keep _ _ _ t2 fun b hb o e => (pin' I' b hb o e).1
      · obtain ⟨o, e, _⟩ := T.obj _ _ t2 b hb
        exact (pin' I' b hb o e).2
    cases b' with
    | false =>
      cases es
      simp only [Bool.false_eq_true, if_false]
      rcases hq with ⟨z, _⟩ | ⟨_, hq⟩
      · cases z
      · exact seg_again rfl (ih (i + 1) h1 hq N (by omega) s₀ s4 (back I4 rfl rfl I4.bare ((x.trans x2).trans x4) k4))
    | true =>
      simp only [if_true]
      dsimp only at es
      split at es
      · rename_i bb h4 eme
        cases es
        have hy : ∀ v, yieldOut Y.env v = yieldValue v := fun v => by simp only [yieldOut, hco, Bool.false_eq_true, if_false]
        simp only [hy]
        rw [Sem.bind_eq_wrap', Sem.bind_eq_wrap', Sem.wrap_wrap, Sem.wrap_wrap]
        refine seg_wrap ?_
        rw [hA]
        refine wpAny_mono (he.run _ s4 σ3 H4 (fun v' H' => v' = .bl bb ∧ ∃ g', Ext H4 g4 H' g' ∧ Hr Y.K Y.tb H' g' h1) I4 ⟨σd2, h3, g4, k4, s3r.ext x4, xok_of eme, fun w' h4' e v' H' g' x' k' r' => by rw [eme] at e; cases e; cases r'; exact ⟨rfl, g', x', k'⟩⟩) (fun yv s5 ⟨v5, H5, I5, rv5, ev, g5, x5, k5⟩ => ?_) (by rw [hxe]; exact fun _ _ z => False.elim z)
        subst ev
        cases rv5
        obtain ⟨N', rfl⟩ : ∃ N', N = N' + 1 := ⟨N - 1, by omega⟩
        have x15 : Ext H1 g1 H5 g5 := ((x.trans x2).trans x4).trans x5
        refine seg_at (seg_yield rfl rfl rfl ⟨bb, rfl, ?_⟩)
        rcases hq with ⟨z, er, eh⟩ | ⟨z, hq⟩
        · cases z
          exact .inl ⟨rfl, er, σ3, H5, g5, I5.unpinned, x15, by rw [eh]; exact k5⟩
        · have eb : bb = cont := by
            cases bb <;> cases cont <;> simp_all
          refine .inr ⟨eb, ⟨σ3, H5, I5.unpinned⟩, fun s'' e1 e2 e3 => ?_⟩
          exact seg_again rfl (ih (i + 1) h1 hq N' (by omega) s'' s'' (back I5 e1 e2 e3 x15 k5))
      · cases es
end
end EV

set_option Elab.async false
set_option linter.all false
set_option maxRecDepth 100000
set_option maxHeartbeats 4000000
namespace EV
open PySem PySem.Spec L2

section
variable {K : PySem.W.Frag} {tb : Addr → Prop} {H : Hp} {g : G} {hd : Hd}
/-- a table grows -/
theorem Hr.table (k : Hr K tb H g hd) {P : Addr} {ps : Array Value} (hP : tb P) (e : H P = some (.tbl ps)) {qs : Array Value} (ht : TriplesOk qs.toList) : Ext H g (upd H P (.tbl qs)) g ∧ Hr K tb (upd H P (.tbl qs)) g hd := by
  have ne : ∀ {b : Addr} {o : HO}, H b = some o → (∀ l, o ≠ .tbl l) → b ≠ P := fun {b o} e1 hl z => by
    rw [z, e] at e1
    exact hl ps (Option.some.inj e1).symm
  have x : Ext H g (upd H P (.tbl qs)) g := by
    refine ⟨fun b xs e1 => by rw [upd_ne (ne e1 fun l z => nomatch z)]; exact e1, fun b o u e1 => by rw [upd_ne (ne e1 fun l z => nomatch z)]; exact e1, fun b ⟨rs, e1, t⟩ => ?_, fun _ h => h, fun a h => upd_ne fun z => (k.tf P hP).2 (by rw [← z]; exact h), fun a h => ⟨h, upd_ne fun z => (k.tf P hP).1 (by rw [← z]; exact h)⟩, List.prefix_refl _⟩
    by_cases hb : b = P
    · rw [hb]
      exact ⟨qs, upd_same, ht⟩
    · exact ⟨rs, by rw [upd_ne hb]; exact e1, t⟩
  refine ⟨x, k.len, k.nd, k.nf, k.fp, fun a h => ?_, fun b h => x.tabs b (k.tab b h), k.tf, fun l a o h1 h2 => (k.obj l a o h1 h2).ext x (upd_ne fun z => k.noTab hP (by rw [← z]; exact List.mem_of_getElem? h1))⟩
  by_cases hb : a = P
  · rw [hb, upd_same]; simp
  · rw [upd_ne hb]; exact k.there a h
end
section
variable {X : Cx} {Wx : WX} {elt tg iter : Expr} {ifs : List Expr} {scope : Scope} {gpos : Pos} {own : List (Str × Nat)} {mi : Sg → Hd → R Iw} {gm : W → Sg → Hd → Option Sg} {is : List Nat} {mt : Sg → Hd → R Bool} {me : Sg → Hd → R W} {cont : Bool} {k : Nat} {c P : Addr}
def qEnd : R Bool → R W
  | .ok b h => .ok (.bl b) h
  | _ => .bad
def mQ (cont : Bool) (vs : List Nat) (mi : Sg → Hd → R Iw) (gm : W → Sg → Hd → Option Sg) (mt : Sg → Hd → R Bool) (me : Sg → Hd → R W) : Sg → Hd → R W := fun σ h => (mi σ h).bind fun it h1 => qEnd (qRun cont (qStep gm mt me (wipeS σ vs)) it h1)
/-- what the expression's parts say -/
structure GenB (X : Cx) (k : Nat) (c P : Addr) (elt tg iter : Expr) (ifs : List Expr) (scope : Scope) (own : List (Str × Nat)) (gm : W → Sg → Hd → Option Sg) (is : List Nat) (mt : Sg → Hd → R Bool) (me : Sg → Hd → R W) : Prop where
  hc : X.calm = true
  hN : X.N.Nodup
  hr : Room (k + 1) X.A
  TB : TabK X.K X.base X.mg c P
  code : X.env.code = .ref c
  ok : GenOk X.N X.env.scope scope own
  his : ∀ i ∈ is, i ∈ own.map (·.2)
  hs : ∀ x, genFold iter X.env x = pure x
  b : ∀ (A' : Around) (s : Shared) (H : Hp) (C : Addr) (code : Value) (fp : List Addr), Room k A' → SC (gcx X A' s H (gEnv X scope C code) fp) tg gm is ∧ PTs (gcx X A' s H (gEnv X scope C code) fp) ifs (tT (gcx X A' s H (gEnv X scope C code) fp) WF mt) ∧ SE (gcx X A' s H (gEnv X scope C code) fp) WF elt me
/-- the generator stands ready -/
def GReady (X : Cx) (cont : Bool) (pins : List (Addr × Obj)) (σ : St) (H : Hp) (g : G) (r : R W) (a : Addr) (s : Shared) : Prop :=
  ∃ (gi : Nat) (Rd : Nat → Shared → Prop) (T S : Shared → Prop) (n : Nat), Rd n s ∧ (∀ n s, Rd n s → s.heap.IsGen a gi) ∧
    (∀ n s, Rd n s → wpAny (model X.prog X.w) X.A.in1 (pyNext (.ref a)) (fun r s1 => (r = none ∧ T s1) ∨ ∃ b, r = some (.bool b) ∧ ((b = cont ∧ ∃ m, m < n ∧ Rd m s1) ∨ (b = (!cont) ∧ S s1))) (fun _ _ => False) s) ∧
    (∀ s', T s' → OkE X pins σ H g r (.bool cont) s') ∧ ∀ s', S s' → OkE X pins σ H g r (.bool (!cont)) s'
theorem room_gen {A : Around} {env : Env} {it : Addr} (hr : Room (k + 1) A) : Room k (A.in1.in1.over (gCode elt tg iter ifs scope gpos it env) []) := by
  have h1 : (A.in1.in1.over (gCode elt tg iter ifs scope gpos it env) []).depth = A.depth + 1 := by
    show A.in1.in1.depth + frameCount ([].map Frame.where_) + _ = _
    rfl
  have h2 : (A.in1.in1.over (gCode elt tg iter ifs scope gpos it env) []).units = A.units + 5 := by
    show A.in1.in1.units + unitsOf ([].map Frame.where_) + _ = _
    rfl
  have d := hr.dp
  have u := hr.un
  exact ⟨hr.hd, by rw [h1]; omega, by rw [h2]; omega⟩
theorem frames_gen {A : Around} {env : Env} {it : Addr} {l : List Env} (h : A.frames = some l) : (A.in1.in1.over (gCode elt tg iter ifs scope gpos it env) []).frames = some (env :: l) := by
  show pushEnvs [env] (pushEnvs [] A.frames) = _
  rw [h]
  rfl
theorem over_start {A1 : Around} {it : Addr} {env : Env} : A1.over (.compStart (.GeneratorExp elt [⟨tg, iter, ifs, 0⟩] scope gpos) 0 (.ref it) .none env) [] = A1.over (gCode elt tg iter ifs scope gpos it env) [] := rfl
theorem gen_seg0 {Y : Cx} {A1 : Around} {R : GenEnd} {Pr : Protocol} {it : Addr} {fp : List Addr} {tn : Nat → Heap → Prop} {J : It} {N : Nat} {s₀ s : Shared} (hA : A1.over (gCode elt tg iter ifs scope gpos it Y.env) [] = Y.A) (T : Turn Y.prog Y.w Y.K tg J fp it tn) (ht : tn 0 s.heap)
    (h : Seg (model Y.prog Y.w) A1 R Pr N s₀ (gCode elt tg iter ifs scope gpos it Y.env) ((model Y.prog Y.w).den (gCode elt tg iter ifs scope gpos it Y.env)) [] s) :
    Seg (model Y.prog Y.w) A1 R Pr N s₀ (.compStart (.GeneratorExp elt [⟨tg, iter, ifs, 0⟩] scope gpos) 0 (.ref it) .none Y.env) ((model Y.prog Y.w).den (.compStart (.GeneratorExp elt [⟨tg, iter, ifs, 0⟩] scope gpos) 0 (.ref it) .none Y.env)) [] s := by
  show Seg _ A1 _ _ _ s₀ _ ((compStart (.GeneratorExp elt [⟨tg, iter, ifs, 0⟩] scope gpos) 0 (.ref it) .none Y.env).onRaise (leaving Y.env)) [] s
  unfold compStart
  rw [Sem.onRaise_eq_wrap]
  show Seg _ A1 _ _ _ s₀ _ ((ask >>= _).wrap _ _ _ _) [] s
  refine seg_bind_wrap (wpAny_askSetting ?_)
  split
  · exact seg_again rfl h
  · refine seg_bind_wrap (wpAny_rule ?_)
    show Seg _ A1 _ _ _ s₀ _ ((standAt iter.pos >>= _).wrap _ _ _ _) [] s
    exact seg_bind_wrap (wpAny_standAt (seg_bind_wrap (T.self _ 0 s _ _ ht (seg_again rfl h))))
theorem gen_core {pins : List (Addr × Obj)} {s : Shared} {σ : St} {H : Hp} {σd : Sg} {hd : Hd} {g : G} {Q' : Value → Shared → Prop} (B : GenB X k c P elt tg iter ifs scope own gm is mt me) (hi : SI X Wx tg iter mi) (I : Inv X pins σ H s) (kk : Hr X.K X.tb H g hd) (sr : Sr X.K X.tb H g σd σ)
    (hx : XOk X Wx σ H g (mQ cont (own.map (·.2)) mi gm mt me σd hd)) (hQ : ∀ a s5, GReady X cont pins σ H g (mQ cont (own.map (·.2)) mi gm mt me σd hd) a s5 → Q' (.ref a) s5) :
    wpAny (model X.prog X.w) X.A (eval (.GeneratorExp elt [⟨tg, iter, ifs, 0⟩] scope gpos) X.env) Q' X.xe s := by
  have hfree : ∀ y ∈ scope.names, y.2 = .free → ∃ c, X.env.cells.lookup y.1 = some c := fun y hy e => by
    rcases B.ok.b.free y hy e with q | q
    · exact I.ok.has _ (.inl q)
    · exact I.ok.has _ (.inr q)
  have tbP : X.tb P := ⟨c, B.TB⟩
  refine wpAny_GeneratorExp_make B.ok.co (closure_ok hfree) B.ok.cell B.ok.dot B.ok.b.kind (by have := B.hr.dp; omega) ?_ B.hs
  unfold mQ at hx hQ
  refine thn (hi.run pins s σ H (fun J H' => ∃ iw h1 g1, mi σd hd = .ok iw h1 ∧ Ext H g H' g1 ∧ Hr X.K X.tb H' g1 h1 ∧ ItR X.K X.tb H' g1 iw J) I ⟨σd, hd, g, kk, sr, hx.bind1, fun iw h1 e J H' g1 x k1 ir => ⟨iw, h1, g1, e, x, k1, ir⟩⟩) fun xv s1 h1 => thn h1 fun itv s2 h2 => ?_
  obtain ⟨it, fp, tn, J, H2, e, I2, T, t2, f2, iw, hd1, g1, em, x1, k1, ir⟩ := h2
  subst e
  have hx1 := XOk.bind2 hx em x1
  obtain ⟨res, hE, er⟩ : ∃ res hE, qRun cont (qStep gm mt me (wipeS σd (own.map (·.2)))) iw hd1 = .ok res hE := by
    cases q : qRun cont (qStep gm mt me (wipeS σd (own.map (·.2)))) iw hd1 with
    | ok b h => exact ⟨b, h, rfl⟩
    | exc c h => rw [q] at hx1; exact hx1.elim
    | bad => rw [q] at hx1; exact hx1.elim
  have eQ : ((mi σd hd).bind fun it h1 => qEnd (qRun cont (qStep gm mt me (wipeS σd (own.map (·.2)))) it h1)) = .ok (.bl res) hE := by
    rw [em]
    show qEnd (qRun _ _ _ _) = _
    rw [er]
    rfl
  rw [eQ] at hQ
  obtain ⟨nR, hRem⟩ := qrem_run er
  obtain ⟨ps, hP, htr⟩ := k1.tab P tbP
  have hPs : s2.heap.get? P = some { cls := .none, data := .fields ps } := I2.hok P _ hP
  have cd : PySem.W.CodeHd s2.heap c P := B.TB.tab.code.keeps fun b u e => I2.bk b u e
  refine ⟨I2.nolimit, ?_⟩
  -- behind the code object
  have cont_ : ∀ (code : Value) (h3 : Heap) (tk : Nat) (qs : Array Value), (∃ more, qs = ps ++ more) → Heap.ExtBut P s2.heap h3 → h3.get? P = some { cls := .none, data := .fields qs } → TriplesOk qs.toList →
      wpAny (model X.prog X.w) X.A (builtinsFor X.env.globals X.env.builtins) (fun bi s₄ => ∀ h', h'.Ns s₄.heap.objs.size (fun y => if y = ".0" then some (.ref it) else none) → Heap.SameBut s₄.heap.objs.size (s₄.heap.push { cls := .type "frame", data := .dict #[] }) h' →
        Q' (.ref h'.objs.size) { s₄ with
            gens := s₄.gens.push (.fresh (.compStart (.GeneratorExp elt [⟨tg, iter, ifs, 0⟩] scope gpos) 0 (.ref it) .none (genEnv scope (cloFrom X.env.cells scope.names []) s₄.heap.objs.size code bi X.env))),
            toks := s₄.toks + 1 + 1 + 1,
            heap := h'.push { cls := .type "generator", data := .fields #[.int s₄.gens.size 0, .str "<genexpr>" (s₄.toks + 1), .str (X.env.qual ++ "<genexpr>") (s₄.toks + 1 + 1)] } }) X.xe { s2 with heap := h3, toks := tk } := by
    intro code h3 tk qs ⟨more, eqs⟩ hx3 hP3 ht3
    obtain ⟨bm, ob, e1, e2, e3, e4, e5, e6, e7, e8⟩ := B.TB.tab.bm
    have J3 : Inv X pins σ (upd H2 P (.tbl qs)) { s2 with heap := h3, toks := tk } := by
      rw [eqs]
      exact GxR.inv_tab (g' := s2.gens) (d' := s2.drawn) I2 hP (fun b o hb e => hx3 b o hb e) (by rw [← eqs]; exact hP3) I2.bare
    obtain ⟨x3, k3⟩ := k1.table tbP hP (qs := qs) ht3
    generalize hH4 : upd H2 P (.tbl qs) = H4 at J3 x3 k3
    refine wpAny_builtinsFor (m := X.mg) (by rw [J3.ok.glob]; exact J3.mod.glob.keeps J3.bk) e1 e2 (J3.bk _ _ e5) e6 e7 e8 ?_
    intro h' hn' hs'
    generalize hs4 : ({ s2 with heap := h3, toks := tk } : Shared) = s4 at J3 hn' hs' ⊢
    have sz : ∀ b ∈ fp, b < s2.heap.objs.size := fun b hb => by
      obtain ⟨o, e, _⟩ := T.obj _ _ t2 b hb
      exact Heap.lt_size e
    have neP : ∀ b ∈ fp, b ≠ P := fun b hb z => by
      have := (f2 b hb).1
      rw [z, hP] at this
      cases this
    have kp34 : ∀ b ∈ fp, ∀ o, s2.heap.get? b = some o → s4.heap.get? b = some o := fun b hb o e => by
      rw [← hs4]
      exact hx3 b o (neP b hb) e
    have t4 : tn 0 s4.heap := T.keep _ _ _ t2 kp34
    have f4 : ∀ b ∈ fp, FpOk X pins H4 b ∧ b < s4.heap.objs.size := fun b hb => by
      refine ⟨⟨?_, (f2 b hb).2⟩, ?_⟩
      · rw [← hH4, upd_ne (neP b hb)]
        exact (f2 b hb).1
      · obtain ⟨o, e, _⟩ := T.obj _ _ t4 b hb
        exact Heap.lt_size e
    have hsz : h'.objs.size = s4.heap.objs.size + 1 := by rw [hs'.1, Heap.size_push]
    have keep' : ∀ b o, s4.heap.get? b = some o → h'.get? b = some o := fun b o e => hs'.extBut b o (Nat.ne_of_lt (Heap.lt_size e)) (Heap.get?_push_of_some _ e)
    have hA1 := room_gen (elt := elt) (tg := tg) (iter := iter) (ifs := ifs) (scope := scope) (gpos := gpos) (env := gEnv X scope s4.heap.objs.size code) (it := it) B.hr
    have I5 := gen_start (d' := s4.drawn) (tk := s4.toks + 1 + 1 + 1) (code := code) (g' := s4.gens.push (.fresh (.compStart (.GeneratorExp elt [⟨tg, iter, ifs, 0⟩] scope gpos) 0 (.ref it) .none (gEnv X scope s4.heap.objs.size code)))) (a := h'.objs.size)
      (A' := X.A.in1.in1.over (gCode elt tg iter ifs scope gpos it (gEnv X scope s4.heap.objs.size code)) [])
      (h5 := h'.push { cls := .type "generator", data := .fields #[.int s4.gens.size 0, .str "<genexpr>" (s4.toks + 1), .str (X.env.qual ++ "<genexpr>") (s4.toks + 1 + 1)] }) J3 B.ok B.hN hA1.hd (frames_gen J3.ok.frames) f4 (hn'.push _) (fun b o e => Heap.get?_push_of_some _ (keep' b o e))
      (fun y hy => by
        rcases Array.mem_push.mp hy with z | z
        · exact J3.bare y z
        · rw [z]; rfl) (Heap.get?_push_size _ rfl) (by omega) (fun v z => nomatch z)
    obtain ⟨bg, bt, be⟩ := B.b (X.A.in1.in1.over (gCode elt tg iter ifs scope gpos it (gEnv X scope s4.heap.objs.size code)) []) s4 H4 s4.heap.objs.size code fp hA1
    have hcA := hA1.hd
    generalize hge : gEnv X scope s4.heap.objs.size code = ge at I5 bg bt be hcA
    have hgc : ge.scope.isCoroutine = false := by rw [← hge]; exact B.ok.co
    have sr4 : Sr X.K X.tb H4 g1 (wipeS σd (own.map (·.2))) (wipe σ (own.map (·.2))) := ((sr.ext x1).ext x3).wipe _
    generalize hpa : (h'.objs.size, ({ cls := .type "generator", data := .fields #[.int s4.gens.size 0, .str "<genexpr>" (s4.toks + 1), .str (X.env.qual ++ "<genexpr>") (s4.toks + 1 + 1)] } : Obj)) = pa at I5
    have pa1 : pa.1 = h'.objs.size := by rw [← hpa]
    generalize hs5 : ({ s4 with
            gens := s4.gens.push (.fresh (.compStart (.GeneratorExp elt [⟨tg, iter, ifs, 0⟩] scope gpos) 0 (.ref it) .none (genEnv scope (cloFrom X.env.cells scope.names []) s4.heap.objs.size code builtinsNs X.env))),
            toks := s4.toks + 1 + 1 + 1,
            heap := h'.push { cls := .type "generator", data := .fields #[.int s4.gens.size 0, .str "<genexpr>" (s4.toks + 1), .str (X.env.qual ++ "<genexpr>") (s4.toks + 1 + 1)] } } : Shared) = s5
    have I5 : Inv (gcx X (X.A.in1.in1.over (gCode elt tg iter ifs scope gpos it ge) []) s4 H4 ge fp) [pa] (wipe σ (own.map (·.2))) H4 s5 := by
      rw [← hs5]
      subst hge
      exact I5
    have t5 : tn 0 s5.heap := T.keep _ _ _ t4 fun b hb o e => by
      rw [← hs5]
      exact Heap.get?_push_of_some _ (keep' b o e)
    have isG : ∀ {σ' : St} {H' : Hp} {s' : Shared}, Inv (gcx X (X.A.in1.in1.over (gCode elt tg iter ifs scope gpos it ge) []) s4 H4 ge fp) [pa] σ' H' s' → s'.heap.IsGen h'.objs.size s4.gens.size := fun {σ' H' s'} I' => by
      have z := (I'.pin pa (List.mem_append_right _ List.mem_cons_self)).1
      rw [← hpa] at z
      exact ⟨_, _, _, z, rfl, rfl, rfl⟩
    have g5 : s5.gens[s4.gens.size]? = some (.fresh (.compStart (.GeneratorExp elt [⟨tg, iter, ifs, 0⟩] scope gpos) 0 (.ref it) .none ge)) := by
      rw [← hs5, ← hge]
      exact Array.getElem?_push_size ..
    have seg := gen_seg (Y := gcx X (X.A.in1.in1.over (gCode elt tg iter ifs scope gpos it ge) []) s4 H4 ge fp) (A1 := X.A.in1.in1) (elt := elt) (tg := tg) (iter := iter) (ifs := ifs) (scope := scope) (gpos := gpos) (it := it) (fp := fp) (pa := pa) (cont := cont) (res := res) (hE := hE)
      rfl B.hc hgc T (fun b hb => hb) rfl (fun b hb z => by
        have h1 := (f4 b hb).2
        rw [← z, pa1, hsz] at h1
        exact absurd (Nat.lt_trans (Nat.lt_succ_self _) h1) (Nat.lt_irrefl _)) rfl (ir.ext x3) bg B.his bt be (wipe_wipe _ _) sr4 nR 0 hd1 hRem nR (Nat.le_refl _)
    refine hQ h'.objs.size s5 ⟨s4.gens.size, fun n s => s.heap.IsGen h'.objs.size s4.gens.size ∧ s.heap.NoLimit ∧ s4.gens.size < s.gens.size ∧ PyProof.Rows.AllBare s.gens ∧ ∃ gs, s.gens[s4.gens.size]? = some gs ∧ ∀ s'' : Shared, s''.heap = s.heap → s''.os = s.os → PyProof.Rows.AllBare s''.gens →
        gs.Goes (model X.prog X.w) X.A.in1.in1 (fun n s₀ r s₁ => r = .ok .next ∧ gR (gcx X (X.A.in1.in1.over (gCode elt tg iter ifs scope gpos it ge) []) s4 H4 ge fp) pa H4 g1 hE cont res n s₀ s₁) (gY (gcx X (X.A.in1.in1.over (gCode elt tg iter ifs scope gpos it ge) []) s4 H4 ge fp) pa H4 g1 hE cont res) n (.send .none) s'',
      fun s => res = cont ∧ gFin (gcx X (X.A.in1.in1.over (gCode elt tg iter ifs scope gpos it ge) []) s4 H4 ge fp) pa H4 g1 hE s, fun s => res = (!cont) ∧ gFin (gcx X (X.A.in1.in1.over (gCode elt tg iter ifs scope gpos it ge) []) s4 H4 ge fp) pa H4 g1 hE s, nR, ⟨isG I5, I5.nolimit, by rw [← hs5]; simp, I5.bare, _, g5, fun s'' e1 e2 e3 => ⟨rfl, ?_⟩⟩, fun n s h => h.1, ?_, ?_, ?_⟩
    · refine gen_seg0 (Y := gcx X (X.A.in1.in1.over (gCode elt tg iter ifs scope gpos it ge) []) s4 H4 ge fp) rfl T (by rw [e1]; exact t5) ?_
      exact seg s'' s'' ⟨H4, g1, Inv.gens' I5 e1 e2 e3, by rw [e1]; exact t5, fun b hb => (f4 b hb).1.1, .refl _ _, k3⟩
    · rintro n s6 ⟨hg, hl, hlt, hb, gs, egs, go⟩
      have hb2 : PyProof.Rows.AllBare (s6.setGen s4.gens.size .running).gens := L2.allBare_setGen hb rfl
      refine GenW.wpAny_gsz (n := s4.gens.size + 1) hlt ?_
      refine wpAny_pyNext_genexpQ (A := X.A.in1) (P := gR (gcx X (X.A.in1.in1.over (gCode elt tg iter ifs scope gpos it ge) []) s4 H4 ge fp) pa H4 g1 hE cont res) B.hr.hd hl (by have := B.hr.dp; show X.A.depth < _; omega) hg egs (go _ rfl rfl hb2) (fun v s7 gs' hbare hv hsz => ?_) (fun s7 hp h8 hk8 hsz => ?_)
      · obtain ⟨b, rfl, ⟨eb, er2, σ7, H7, g7, I7, x7, k7⟩ | ⟨eb, ⟨σ7, H7, I7⟩, kap⟩⟩ := hv
        · exact .inr ⟨b, rfl, .inr ⟨eb, er2, σ7, H7, g7, Inv.gens' I7 rfl rfl (L2.allBare_setGen I7.bare hbare), x7, k7⟩⟩
        · refine .inr ⟨b, rfl, .inl ⟨eb, ?_⟩⟩
          have hlt7 : s4.gens.size < s7.gens.size := by
            have z : s4.gens.size + 1 ≤ (s7.setGen s4.gens.size gs').gens.size := hsz
            rw [GenW.setGen_size] at z
            exact z
          cases n with
          | zero => exact (kap s7 rfl rfl I7.bare).elim
          | succ m =>
            refine ⟨m, Nat.lt_succ_self m, isG (s' := s7) I7, I7.nolimit, hsz, L2.allBare_setGen I7.bare hbare, gs', L2.setGen_at hlt7, fun s'' e1 e2 e3 => kap s'' e1 e2 e3⟩
      · obtain ⟨er2, σ7, H7, g7, I7, x7, k7⟩ := hp
        exact .inl ⟨rfl, er2, σ7, H7, g7, Inv.gens' (s := { s7 with heap := h8 }) (I7.kept (t' := s7.toks) hk8) rfl rfl (L2.allBare_setGen I7.bare rfl), x7, k7⟩
    · rintro s6 ⟨rfl, σ6, H6, g6, I6, x6, k6⟩
      have I7 : Inv X pins σ H6 s6 := J3.call' (ch := fp) I6.os I6.base I6.hok I6.bare fun b hb => ⟨(f4 b hb).1.2.2.2.1, (f4 b hb).1.2.1, (f4 b hb).1.2.2.2.2.1, (f4 b hb).1.2.2.2.2.2⟩
      exact ⟨.bl _, hE, .bl _, H6, g6, rfl, I7, rfl, (x1.trans x3).trans x6, k6, .bl .nil⟩
    · rintro s6 ⟨er2, σ6, H6, g6, I6, x6, k6⟩
      have I7 : Inv X pins σ H6 s6 := J3.call' (ch := fp) I6.os I6.base I6.hok I6.bare fun b hb => ⟨(f4 b hb).1.2.2.2.1, (f4 b hb).1.2.1, (f4 b hb).1.2.2.2.2.1, (f4 b hb).1.2.2.2.2.2⟩
      exact ⟨.bl _, hE, .bl _, H6, g6, by rw [er2], I7, rfl, (x1.trans x3).trans x6, k6, .bl .nil⟩
  cases hf : codeAmong gpos ps.toList with
  | none =>
    refine wpAny_genexprCodeX B.code (cd.code hPs htr) (cd.tab hPs) hf fun c' h' tk hx hge hlt hco' _ htab' _ => ?_
    obtain ⟨o1, vs, f1, tf, fl, tg', inF, tx, tt, op, _, _, _, _, _, _, _, _, _, htr2, _⟩ := hco'
    exact cont_ _ h' tk _ ⟨_, rfl⟩ hx htab'.2 htr2
  | some cv =>
    refine wpAny_genexprCode_hit B.code (cd.code hPs htr) hf ?_
    exact cont_ cv s2.heap s2.toks ps ⟨#[], by simp⟩ (Heap.ExtBut.refl _ _) hPs htr
theorem s_all {p pos : Pos} (B : GenB X k c P elt tg iter ifs scope own gm is mt me) (hi : SI X Wx tg iter mi) (hg : Gl X "all") (hm : X.mg "all" = none) (hb : bootBuiltins "all" = some (.builtin "all"))
    (he : starEach [.GeneratorExp elt [⟨tg, iter, ifs, 0⟩] scope gpos] X.env = (false, eval (.GeneratorExp elt [⟨tg, iter, ifs, 0⟩] scope gpos) X.env) :: starEach [] X.env := by rfl) :
    SE X Wx (.Call (.Name "all" p) [.GeneratorExp elt [⟨tg, iter, ifs, 0⟩] scope gpos] [] pos) (mQ true (own.map (·.2)) mi gm mt me) := by
  refine SE.mk fun pins s σ H σd hd g I kk sr hx => ?_
  refine PySem.wpAny_Call_Name_kw (ld_blt I hg hm hb ?_)
  refine PyProof.Rows.callWith_builtin1 ?_ he (by rfl)
  rw [he]
  show wpAny _ _ (spliced ((false, eval (.GeneratorExp elt [⟨tg, iter, ifs, 0⟩] scope gpos) X.env) :: backTo pos (starEach [] X.env))) _ _ s
  refine Calls.spliced_cons (gen_core B hi I kk sr hx fun a s5 ⟨gi, Rd, T, S, n, rd, hG, hN, hT, hS⟩ => Calls.spliced_nil ?_)
  refine call_function_tree F.kind_all F.plain_all F.entry_all (F.args_all1 _) ?_
  unfold Builtin.«all»
  refine wpAny_bind (m := oneArg "all" _) (wpAny_pure ?_)
  refine wpAny_bind (wpAny_pyIter_gen (hG n s5 rd) ?_)
  exact wpAny_pure ⟨plainId_quiet F.plain_all_loop _, all_loop hN n s5 _ rd (fun s' h => hT s' h) fun s' h => hS s' h⟩
theorem s_any {p pos : Pos} (B : GenB X k c P elt tg iter ifs scope own gm is mt me) (hi : SI X Wx tg iter mi) (hg : Gl X "any") (hm : X.mg "any" = none) (hb : bootBuiltins "any" = some (.builtin "any"))
    (he : starEach [.GeneratorExp elt [⟨tg, iter, ifs, 0⟩] scope gpos] X.env = (false, eval (.GeneratorExp elt [⟨tg, iter, ifs, 0⟩] scope gpos) X.env) :: starEach [] X.env := by rfl) :
    SE X Wx (.Call (.Name "any" p) [.GeneratorExp elt [⟨tg, iter, ifs, 0⟩] scope gpos] [] pos) (mQ false (own.map (·.2)) mi gm mt me) := by
  refine SE.mk fun pins s σ H σd hd g I kk sr hx => ?_
  refine PySem.wpAny_Call_Name_kw (ld_blt I hg hm hb ?_)
  refine PyProof.Rows.callWith_builtin1 ?_ he (by rfl)
  rw [he]
  show wpAny _ _ (spliced ((false, eval (.GeneratorExp elt [⟨tg, iter, ifs, 0⟩] scope gpos) X.env) :: backTo pos (starEach [] X.env))) _ _ s
  refine Calls.spliced_cons (gen_core B hi I kk sr hx fun a s5 ⟨gi, Rd, T, S, n, rd, hG, hN, hT, hS⟩ => Calls.spliced_nil ?_)
  refine call_function_tree F.kind_any F.plain_any F.entry_any (F.args_any1 _) ?_
  unfold Builtin.«any»
  refine wpAny_bind (m := oneArg "any" _) (wpAny_pure ?_)
  refine wpAny_bind (wpAny_pyIter_gen (hG n s5 rd) ?_)
  exact wpAny_pure ⟨plainId_quiet F.plain_any_loop _, any_loop hN n s5 _ rd (fun s' h => hT s' h) fun s' h => hS s' h⟩
end
end EV

set_option Elab.async false
set_option linter.all false
set_option maxRecDepth 100000
set_option maxHeartbeats 4000000
namespace EV
open PySem PySem.Spec L2

/-! ## methods of built-in types -/
abbrev Me := W → List W → Hd → R W
def MeS (X : Cx) (id : String) (F : Me) : Prop := ∃ r, MtR X id r ∧ (∀ w ws h c h', F w ws h ≠ .exc c h') ∧ ∀ (H : Hp) (g : G) (hd : Hd) (w : W) (v : V) (ws : List W) (vs : List V) (w' : W) (hd' : Hd) (Q : VK),
  Hr X.K X.tb H g hd → Rel X.K X.tb H g w v → Rels X.K X.tb H g ws vs → F w ws hd = .ok w' hd' → (∀ v' H' g', Ext H g H' g' → Hr X.K X.tb H' g' hd' → Rel X.K X.tb H' g' w' v' → Q v' H') → r v vs H Q
def mMe (T : String) (F : Me) (mo : Sg → Hd → R W) (ma : Sg → Hd → R (List W)) : Sg → Hd → R W := fun σ h => (mo σ h).bind fun o h1 => if tyW h1 o = some T then (ma σ h1).bind fun ws h2 => F o ws h2 else .bad
section
variable {X : Cx} {Wx : WX}
theorem tyV_of {H : Hp} {g : G} {hd : Hd} {w : W} {v : V} {T : String} (hT : T ≠ "tuple" ∧ T ≠ "NoneType" ∧ T ≠ "bool") (k : Hr X.K X.tb H g hd) (r : Rel X.K X.tb H g w v) (e : tyW hd w = some T) : tyV X.K T v H := by
  have dct : ∀ {a : Addr} {o : HO} {ks : List W} {us : List V}, H a = some o → DcO ks us o → tyV X.K "dict" (.ref a) H := fun {a o ks us} h d => by
    rcases d with ⟨kk, _, _, _, rfl⟩ | ⟨kk, _, _, _, rfl⟩
    · exact .inr (.inr (.inl ⟨rfl, .inl ⟨_, h⟩⟩))
    · exact .inr (.inr (.inl ⟨rfl, .inr ⟨_, h⟩⟩))
  cases w with
  | non => cases e; exact absurd rfl hT.2.1
  | bl b => cases e; exact absurd rfl hT.2.2
  | int b => cases r; cases e; exact rfl
  | str b => cases r; cases e; exact rfl
  | tup xs => cases e; exact absurd rfl hT.1
  | fl xs => cases e; cases r with | fl s t _ => exact .inl ⟨rfl, _, SqL.of s.1⟩
  | scr xs => cases e; cases r with | scr s t _ => exact .inl ⟨rfl, _, s.sq⟩
  | fd ks xs => cases e; cases r with | fd s f d t _ => exact dct s d
  | ref l =>
    unfold tyW at e
    dsimp only at e
    split at e
    · rename_i xs q
      cases e
      obtain ⟨a, us, rfl, hl, h1, t⟩ := lref_of k r q
      exact .inl ⟨rfl, _, SqL.of h1⟩
    · rename_i ks xs q
      cases e
      cases r with
      | ref hl _ =>
        obtain ⟨o, vs, h1, h2, _⟩ := k.obj _ _ _ hl q
        exact dct h1 h2
    · cases e
  | _ => cases e
variable {o e : Expr} {es : List Expr} {mo : Sg → Hd → R W} {ma : Sg → Hd → R (List W)} {name : Str} {apos cpos : Pos} {T id : String} {F : Me}
theorem s_me (hT : T ≠ "tuple" ∧ T ≠ "NoneType" ∧ T ≠ "bool") (pa : PlainAttrs T) (slot : Slot T name id) (hty : typeOf (.builtin id) = pure (.type "method_descriptor")) (hm : MeS X id F) (ho : SE X Wx o mo) (ha : SA X Wx (e :: es) ma)
    (hbase : attributeBase o name X.env (eval o X.env) = eval o X.env := by rfl)
    (hfew : ((backTo cpos (starEach (e :: es) X.env)).all (fun x => !x.1) && (backToKw cpos (keywordEach [] X.env)).all (fun x => x.1.isSome)
      && decide ((e :: es).length + ([] : List Keyword).length + (if ([] : List Keyword).isEmpty then 0 else 1) < 30)) = true := by rfl)
    (hline : (apos.endLine == cpos.line) = true := by rfl) (hs : starEach (e :: es) X.env = (false, eval e X.env) :: starEach es X.env := by rfl) (hplain : (backTo cpos (starEach es X.env)).any (·.1) = false := by rfl) :
    SE X Wx (.Call (.Attribute o name apos) (e :: es) [] cpos) (mMe T F mo ma) := by
  obtain ⟨r, hr, hx0, hq⟩ := hm
  refine ⟨fun pins s σ H Q I ⟨σd, hd, g, k, sr, hx, q⟩ => (pe_bm pa slot hty hr ho ha hbase hfew hline hs hplain).run pins s σ H Q I ⟨σd, hd, g, k, sr, hx.bind1, fun w h1 e1 v H1 g1 x1 k1 r1 => ?_⟩⟩
  have hx1 := XOk.bind2 hx e1 x1
  split at hx1
  · rename_i ht
    refine ⟨tyV_of hT k1 r1 ht, σd, h1, g1, k1, sr.ext x1, hx1.bind1, fun ws h2 e2 vs H2 g2 x2 k2 r2 => ?_⟩
    have hx2 := XOk.bind2 hx1 e2 x2
    cases e3 : F w ws h2 with
    | bad => rw [e3] at hx2; exact hx2.elim
    | exc c h' => exact (hx0 _ _ _ _ _ e3).elim
    | ok w' h3 =>
      refine hq H2 g2 h2 w v ws vs w' h3 Q k2 (x2.rels r1) r2 e3 fun v' H' g' x' k' r' => q w' h3 ?_ v' H' g' ((x1.trans x2).trans x') k' r'
      unfold mMe
      rw [e1]
      show (if tyW h1 w = some T then _ else _) = _
      rw [if_pos ht, e2]
      exact e3
  · exact hx1.elim
theorem s_me0 (hT : T ≠ "tuple" ∧ T ≠ "NoneType" ∧ T ≠ "bool") (pa : PlainAttrs T) (slot : Slot T name id) (hty : typeOf (.builtin id) = pure (.type "method_descriptor")) (hm : MeS X id F) (ho : SE X Wx o mo)
    (hbase : attributeBase o name X.env (eval o X.env) = eval o X.env := by rfl) (hline : (apos.endLine == cpos.line) = true := by rfl) : SE X Wx (.Call (.Attribute o name apos) [] [] cpos) (mMe T F mo mNil) := by
  obtain ⟨r, hr, hx0, hq⟩ := hm
  refine ⟨fun pins s σ H Q I ⟨σd, hd, g, k, sr, hx, q⟩ => (pe_bm0 pa slot hty hr ho hbase hline).run pins s σ H Q I ⟨σd, hd, g, k, sr, hx.bind1, fun w h1 e1 v H1 g1 x1 k1 r1 => ?_⟩⟩
  have hx1 := XOk.bind2 hx e1 x1
  split at hx1
  · rename_i ht
    have hx2 : XOk X Wx σ H1 g1 (F w [] h1) := hx1
    refine ⟨tyV_of hT k1 r1 ht, ?_⟩
    cases e3 : F w [] h1 with
    | bad => rw [e3] at hx2; exact hx2.elim
    | exc c h' => exact (hx0 _ _ _ _ _ e3).elim
    | ok w' h3 =>
      refine hq H1 g1 h1 w v [] [] w' h3 Q k1 r1 .nil e3 fun v' H' g' x' k' r' => q w' h3 ?_ v' H' g' (x1.trans x') k' r'
      unfold mMe
      rw [e1]
      show (if tyW h1 w = some T then _ else _) = _
      rw [if_pos ht]
      exact e3
  · exact hx1.elim
end
/-- the list that may change -/
def refL (w : W) (h : Hd) : Option (Nat × List W) := match w with
  | .ref l => match h[l]? with
    | some (.lst xs) => some (l, xs)
    | _ => none
  | _ => none
theorem refL_eq {w : W} {h : Hd} {l : Nat} {xs : List W} (e : refL w h = some (l, xs)) : w = .ref l ∧ h[l]? = some (.lst xs) := by
  unfold refL at e
  split at e
  · split at e
    · cases e; exact ⟨rfl, ‹_›⟩
    · cases e
  · cases e
def fAppend : Me := fun w ws h => match refL w h, ws with
  | some (l, xs), [y] => if xs.length < 16777216 then .ok .non (h.set l (.lst (xs ++ [y]))) else .bad
  | _, _ => .bad
def fExtend : Me := fun w ws h => match refL w h, ws with
  | some (l, xs), [y] => match lstM h y with
    | some zs => if xs.length + zs.length ≤ 16777216 then .ok .non (h.set l (.lst (xs ++ zs))) else .bad
    | none => .bad
  | _, _ => .bad
def fPop : Me := fun w ws h => match refL w h, ws with
  | some (l, xs), [] => match xs[xs.length - 1]? with
    | some y => .ok y (h.set l (.lst xs.dropLast))
    | none => .bad
  | some (l, xs), [.int i] => if -(2 ^ 63) ≤ i ∧ i < 2 ^ 63 then match ixN xs.length i with
    | some k => match xs[k]? with
      | some y => .ok y (h.set l (.lst (xs.eraseIdx k)))
      | none => .bad
    | none => .bad else .bad
  | _, _ => .bad
section
variable {X : Cx} {K : PySem.W.Frag} {tb : Addr → Prop} {H : Hp} {g : G}
theorem Rels.dropLast {ws : List W} {vs : List V} (h : Rels K tb H g ws vs) : Rels K tb H g ws.dropLast vs.dropLast := by
  rw [List.dropLast_eq_take, List.dropLast_eq_take, h.length]
  exact h.take _
theorem Rels.eraseIdx {ws : List W} {vs : List V} (h : Rels K tb H g ws vs) (i : Nat) : Rels K tb H g (ws.eraseIdx i) (vs.eraseIdx i) := by
  rw [List.eraseIdx_eq_take_drop_succ, List.eraseIdx_eq_take_drop_succ]
  exact (h.take i).append (h.drop (i + 1))
theorem fAppend_ok : MeS X "list.append" fAppend := by
  refine ⟨_, mt_append, fun w ws h c h' e => ?_, fun H g hd w v ws vs w' hd' Q k r rs e q => ?_⟩
  · unfold fAppend at e
    repeat' split at e
    all_goals cases e
  · unfold fAppend at e
    cases eq : refL w hd with
    | none => rw [eq] at e; cases e
    | some p =>
      obtain ⟨l, xs⟩ := p
      rw [eq] at e
      obtain ⟨rfl, e1⟩ := refL_eq eq
      obtain ⟨a, us, rfl, hl, h1, t⟩ := lref_of k r e1
      split at e
      · split at e
        · cases e
          rename_i e0 hz
          cases e0
          obtain ⟨y', rfl, ry⟩ := rels1 rs
          obtain ⟨x, k'⟩ := k.writeL hl h1 (t.append ry)
          exact ⟨a, us, y', rfl, rfl, h1, Nat.lt_of_lt_of_le (by rw [← t.length]; exact hz) line_lit, q _ _ _ x k' (.non .nil)⟩
        · cases e
      · cases e
theorem fExtend_ok : MeS X "list.extend" fExtend := by
  refine ⟨_, mt_extend, fun w ws h c h' e => ?_, fun H g hd w v ws vs w' hd' Q k r rs e q => ?_⟩
  · unfold fExtend at e
    repeat' split at e
    all_goals cases e
  · unfold fExtend at e
    cases eq : refL w hd with
    | none => rw [eq] at e; cases e
    | some p =>
      obtain ⟨l, xs⟩ := p
      rw [eq] at e
      obtain ⟨rfl, e1⟩ := refL_eq eq
      obtain ⟨a, us, rfl, hl, h1, t⟩ := lref_of k r e1
      split at e
      · rename_i e0
        cases e0
        split at e
        · rename_i zs e2
          split at e
          · cases e
            rename_i hz
            obtain ⟨y', rfl, ry⟩ := rels1 rs
            obtain ⟨b, us2, rfl, h2, t2⟩ := lstM_of k ry e2
            obtain ⟨x, k'⟩ := k.writeL hl h1 (t.append t2)
            have l1 := t.length
            have l2 := t2.length
            exact ⟨a, b, us, us2, rfl, rfl, h1, h2, Nat.le_trans (by omega) line_lit, q _ _ _ x k' (.non .nil)⟩
          · cases e
        · cases e
      · cases e
theorem fPop_ok : MeS X "list.pop" fPop := by
  refine ⟨_, MtR.or mt_pop mt_popAt, fun w ws h c h' e => ?_, fun H g hd w v ws vs w' hd' Q k r rs e q => ?_⟩
  · unfold fPop at e
    repeat' split at e
    all_goals cases e
  · unfold fPop at e
    cases eq : refL w hd with
    | none => rw [eq] at e; cases e
    | some p =>
      obtain ⟨l, xs⟩ := p
      rw [eq] at e
      obtain ⟨rfl, e1⟩ := refL_eq eq
      obtain ⟨a, us, rfl, hl, h1, t⟩ := lref_of k r e1
      split at e
      · rename_i e0
        cases e0
        split at e
        · rename_i y ey
          cases e
          cases rs
          obtain ⟨v', ev, rv⟩ := t.get ey
          obtain ⟨x, k'⟩ := k.writeL hl h1 t.dropLast
          exact .inl ⟨a, us, v', rfl, rfl, h1, by rw [← t.length]; exact ev, q _ _ _ x k' (x.rels rv)⟩
        · cases e
      · rename_i i e0
        cases e0
        split at e
        · rename_i hb
          split at e
          · rename_i j hj
            split at e
            · rename_i y ey
              cases e
              obtain ⟨i', rfl, ri⟩ := rels1 rs
              cases ri
              obtain ⟨v', ev, rv⟩ := t.get ey
              obtain ⟨x, k'⟩ := k.writeL hl h1 (t.eraseIdx j)
              rw [t.length] at hj
              exact .inr ⟨a, us, i, j, v', rfl, rfl, h1, hb.1, hb.2, (ixN_seq hj).1, ev, q _ _ _ x k' (x.rels rv)⟩
            · cases e
          · cases e
        · cases e
      · cases e
end
end EV

set_option Elab.async false
set_option linter.all false
set_option maxRecDepth 100000
set_option maxHeartbeats 4000000
namespace EV
open PySem PySem.Spec L2

/-! ## sorted -/
mutual
def sameD : PyData → PyData → Bool
  | .bool _, .bool _ => true
  | .int _, .int _ => true
  | .str _, .str _ => true
  | .list xs, .list ys => sameAll xs ys
  | .tuple xs, .tuple ys => sameAll xs ys
  | _, _ => false
def sameAll : List PyData → List PyData → Bool
  | x :: xs, y :: ys => sameD x y && sameAll xs ys
  | [], [] => true
  | _, _ => false
end
mutual
theorem same_alike : ∀ d e f : PyData, sameD d e = true → sameD d f = true → PySem.W.alike e f = true
  | .bool _, .bool _, .bool _, _, _ => rfl
  | .int _, .int _, .int _, _, _ => rfl
  | .str _, .str _, .str _, _, _ => rfl
  | .list xs, .list ys, .list zs, h1, h2 => by
    unfold sameD at h1 h2
    unfold PySem.W.alike
    exact same_alikeAll xs ys zs h1 h2
  | .tuple xs, .tuple ys, .tuple zs, h1, h2 => by
    unfold sameD at h1 h2
    unfold PySem.W.alike
    exact same_alikeAll xs ys zs h1 h2
theorem same_alikeAll : ∀ ds es fs : List PyData, sameAll ds es = true → sameAll ds fs = true → PySem.W.alikeAll es fs = true
  | [], [], [], _, _ => rfl
  | d :: ds, e :: es, f :: fs, h1, h2 => by
    unfold sameAll at h1 h2
    unfold PySem.W.alikeAll
    rw [Bool.and_eq_true] at h1 h2 ⊢
    exact ⟨same_alike d e f h1.1 h2.1, same_alikeAll ds es fs h1.2 h2.2⟩
end
def isIntD : PyData → Bool
  | .int _ => true
  | _ => false
def isIntsD : PyData → Bool
  | .tuple xs => xs.all isIntD
  | _ => false
theorem ints_alike : ∀ xs ys : List PyData, xs.all isIntD = true → ys.all isIntD = true → PySem.W.alikeAll xs ys = true
  | [], ys, _, _ => by simp [PySem.W.alikeAll]
  | _ :: _, [], _, _ => by simp [PySem.W.alikeAll]
  | x :: xs, y :: ys, h1, h2 => by
    simp only [List.all_cons, Bool.and_eq_true] at h1 h2
    simp only [PySem.W.alikeAll, Bool.and_eq_true]
    refine ⟨?_, ints_alike xs ys h1.2 h2.2⟩
    cases x <;> cases y <;> simp_all [isIntD, PySem.W.alike]
def nonNilT : PyData → Bool
  | .tuple (_ :: _) => true
  | _ => false
def otherD : PyData → Bool
  | .tuple _ => false
  | .none => false
  | _ => true
def alikesB (ds : List PyData) : Bool := (match ds with
  | [] => true
  | d :: _ => ds.all (sameD d)) || ds.all isIntsD || ds.all fun d => ds.all fun e => PySem.W.alike d e
def sortB (ds : List PyData) : Bool := alikesB ds && (ds.all nonNilT || ds.all otherD)
theorem alikesB_ok {ds : List PyData} (h : alikesB ds = true) : PySem.W.AllAlike ds := by
  unfold alikesB at h
  simp only [Bool.or_eq_true, List.all_eq_true] at h
  intro d hd e he
  rcases h with (h | h) | h
  · cases ds with
    | nil => simp at hd
    | cons d0 r =>
      simp only [List.all_eq_true] at h
      exact same_alike d0 d e (h d hd) (h e he)
  · have h1 := h d hd
    have h2 := h e he
    cases d <;> simp only [isIntsD] at h1 <;> first
      | cases h1
      | skip
    cases e <;> simp only [isIntsD] at h2 <;> first
      | cases h2
      | skip
    simp only [PySem.W.alike]
    exact ints_alike _ _ h1 h2
  · exact h d hd e he
theorem sortB_ok {ds : List PyData} (h : sortB ds = true) : PySem.W.AllAlike ds ∧ PySem.W.Sortable ds := by
  unfold sortB at h
  simp only [Bool.and_eq_true, Bool.or_eq_true, List.all_eq_true] at h
  refine ⟨alikesB_ok h.1, h.2.imp (fun h d hd => ?_) fun h d hd => ?_⟩
  · have := h d hd
    cases d <;> simp only [nonNilT] at this <;> first
      | cases this
      | skip
    rename_i xs
    cases xs with
    | nil => cases this
    | cons x r => exact ⟨x, r, rfl⟩
  · have := h d hd
    cases d <;> simp_all [otherD]
/-- sorting by inserting: stable -/
def insB {β : Type} (le : β → β → Bool) (x : β) : List β → List β
  | [] => [x]
  | y :: ys => if le x y = true then x :: y :: ys else y :: insB le x ys
def isortB {β : Type} (le : β → β → Bool) (xs : List β) : List β := xs.foldr (insB le) []
section
variable {β : Type} {le : β → β → Bool}
theorem insB_perm (x : β) : ∀ l : List β, (insB le x l).Perm (x :: l)
  | [] => .refl _
  | y :: ys => by
    unfold insB
    split
    · exact .refl _
    · exact ((insB_perm x ys).cons y).trans (.swap ..)
theorem isortB_perm : ∀ l : List β, (isortB le l).Perm l
  | [] => .refl _
  | x :: l => (insB_perm x _).trans ((isortB_perm l).cons x)
theorem insB_sorted (trans : ∀ x y z, le x y = true → le y z = true → le x z = true) (total : ∀ x y, (le x y || le y x) = true) (x : β) : ∀ l : List β, l.Pairwise (fun a b => le a b = true) → (insB le x l).Pairwise fun a b => le a b = true
  | [], _ => by simp [insB]
  | y :: ys, h => by
    unfold insB
    have h' := List.pairwise_cons.mp h
    split
    · rename_i hxy
      refine List.pairwise_cons.mpr ⟨fun a ha => ?_, h⟩
      rcases List.mem_cons.mp ha with e | ha
      · rw [e]; exact hxy
      · exact trans _ _ _ hxy (h'.1 a ha)
    · rename_i hxy
      refine List.pairwise_cons.mpr ⟨fun a ha => ?_, insB_sorted trans total x ys h'.2⟩
      rcases List.mem_cons.mp ((insB_perm x ys).mem_iff.mp ha) with e | ha
      · rw [e]
        have t := total x y
        simp only [Bool.or_eq_true] at t
        exact t.resolve_left hxy
      · exact h'.1 a ha
theorem isortB_sorted (trans : ∀ x y z, le x y = true → le y z = true → le x z = true) (total : ∀ x y, (le x y || le y x) = true) : ∀ l : List β, (isortB le l).Pairwise fun a b => le a b = true
  | [] => .nil
  | x :: l => insB_sorted trans total x _ (isortB_sorted trans total l)
theorem insB_kept (trans : ∀ x y z, le x y = true → le y z = true → le x z = true) (z x : β) : ∀ l : List β, (insB le x l).filter (PySem.W.Srt.alike le z) = (x :: l).filter (PySem.W.Srt.alike le z)
  | [] => rfl
  | y :: ys => by
    unfold insB
    split
    · rfl
    · rename_i hxy
      rw [List.filter_cons, insB_kept trans z x ys, List.filter_cons, List.filter_cons, List.filter_cons]
      by_cases hx : PySem.W.Srt.alike le z x = true
      · by_cases hy : PySem.W.Srt.alike le z y = true
        · unfold PySem.W.Srt.alike at hx hy
          simp only [Bool.and_eq_true] at hx hy
          exact absurd (trans _ _ _ hx.2 hy.1) hxy
        · simp [hx, hy]
      · simp only [if_neg hx]
theorem isortB_kept (trans : ∀ x y z, le x y = true → le y z = true → le x z = true) (z : β) : ∀ l : List β, (isortB le l).filter (PySem.W.Srt.alike le z) = l.filter (PySem.W.Srt.alike le z)
  | [] => rfl
  | x :: l => by
    show (insB le x (isortB le l)).filter _ = _
    rw [insB_kept trans, List.filter_cons, isortB_kept trans z l, List.filter_cons]
theorem isortB_eq (trans : ∀ x y z, le x y = true → le y z = true → le x z = true) (total : ∀ x y, (le x y || le y x) = true) (l : List β) : isortB le l = l.mergeSort le :=
  PySem.W.Srt.the le trans total (isortB_sorted trans total l) fun z => isortB_kept trans z l
theorem isortB_map {γ : Type} {le' : γ → γ → Bool} (f : β → γ) (h : ∀ a b, le' (f a) (f b) = le a b) : ∀ l : List β, isortB le' (l.map f) = (isortB le l).map f
  | [] => rfl
  | x :: l => by
    have ins : ∀ (x : β) (l : List β), insB le' (f x) (l.map f) = (insB le x l).map f := by
      intro x l
      induction l with
      | nil => rfl
      | cons y ys ih =>
        simp only [List.map_cons, insB, h]
        split
        · rfl
        · simp only [List.map_cons, ih]
    show insB le' (f x) (isortB le' (l.map f)) = _
    rw [isortB_map f h l, ins]
    rfl
end
abbrev Tk := List (Int ⊕ List Nat)
def leTk (a b : Tk × W) : Bool := !PyProof.Rows.lexLt PyProof.Rows.itemOrd b.1 a.1
def sortW (ds : List PyData) (xs : List W) : List W := (isortB leTk ((ds.map PySem.W.keyToks).zip xs)).map (·.2)
def fSorted : Fn := fun ws h => match ws with
  | [w] => match lstOf h w with
    | some xs => match mapO (toD h 64) xs with
      | some ds => if sortB ds = true ∧ 2 ≤ xs.length then .ok (.fl (sortW ds xs)) h else if xs.length < 2 then .ok (.fl xs) h else .bad
      | none => .bad
    | none => .bad
  | _ => .bad
section
variable {X : Cx}
theorem leTk_trans : ∀ x y z : Tk × W, leTk x y = true → leTk y z = true → leTk x z = true := (PySem.W.sortLe_total (PyProof.Rows.listOrd PyProof.Rows.itemOrd) false fun b : Tk × W => b.1).trans
theorem leTk_total : ∀ x y : Tk × W, (leTk x y || leTk y x) = true := fun x y => Bool.or_eq_true _ _ |>.mpr ((PySem.W.sortLe_total (PyProof.Rows.listOrd PyProof.Rows.itemOrd) false fun b : Tk × W => b.1).total x y)
/-- the things to sort: their worth, their value, their data -/
theorem sorted_bs {K : PySem.W.Frag} {tb : Addr → Prop} {H : Hp} {g : G} {hd : Hd} (k : Hr K tb H g hd) : ∀ {ws : List W} {vs : List V} {ds : List PyData}, Rels K tb H g ws vs → mapO (toD hd 64) ws = some ds →
    ∃ bs : List (W × V × PyData), bs.map (·.1) = ws ∧ bs.map (·.2.1) = vs ∧ bs.map (·.2.2) = ds ∧ ∀ b ∈ bs, Rel K tb H g b.1 b.2.1 ∧ toD hd 64 b.1 = some b.2.2
  | [], _, _, r, e => by
    cases r
    cases e
    exact ⟨[], rfl, rfl, rfl, fun b hb => by simp at hb⟩
  | w :: ws, vs, ds, r, e => by
    obtain ⟨v, vr, rfl, r1, r2⟩ := r.uncons
    unfold mapO at e
    cases e1 : toD hd 64 w with
    | none => rw [e1] at e; cases e
    | some d =>
      cases e2 : mapO (toD hd 64) ws with
      | none => rw [e1, e2] at e; cases e
      | some ds' =>
        rw [e1, e2] at e
        cases e
        obtain ⟨bs, h1, h2, h3, h4⟩ := sorted_bs k r2 e2
        refine ⟨(w, v, d) :: bs, by simp [h1], by simp [h2], by simp [h3], fun b hb => ?_⟩
        rcases List.mem_cons.mp hb with z | hb
        · rw [z]; exact ⟨r1, e1⟩
        · exact h4 b hb
theorem rels_of_bs {K : PySem.W.Frag} {tb : Addr → Prop} {H : Hp} {g : G} : ∀ {bs : List (W × V × PyData)}, (∀ b ∈ bs, Rel K tb H g b.1 b.2.1) → Rels K tb H g (bs.map (·.1)) (bs.map (·.2.1))
  | [], _ => .nil
  | b :: bs, h => .cons (h b List.mem_cons_self) (rels_of_bs fun c hc => h c (List.mem_cons_of_mem _ hc))
theorem each_vals : ∀ {us : List Value} {bs : List (W × V × PyData)}, PySem.W.EachIs (fun u b => RelV b.2.1 u) us bs → Vals (bs.map (·.2.1)) us
  | _, _, .nil => .nil
  | _, _, .cons h t => .cons h (each_vals t)
theorem vals_each : ∀ {us : List Value} {bs : List (W × V × PyData)}, Vals (bs.map (·.2.1)) us → PySem.W.EachIs (fun u b => RelV b.2.1 u) us bs
  | _, [], h => by cases h; exact .nil
  | _, b :: bs, h => by
    cases h with
    | cons h t => exact .cons h (vals_each t)
theorem reads_each {h : Heap} : ∀ {us : List Value} {bs : List (W × V × PyData)} {as : List Addr}, ReadsAll h us (bs.map (·.2.2)) as → PySem.W.EachIs (fun u b => ∃ as, Reads h u b.2.2 as) us bs
  | _, [], _, r => by
    cases r
    exact .nil
  | _, b :: bs, _, r => by
    cases r with
    | cons h1 h2 => exact .cons ⟨_, h1⟩ (reads_each h2)
theorem depth_mem : ∀ {ds : List PyData} {n : Nat}, PyData.depthAll ds ≤ n → ∀ d ∈ ds, d.depth ≤ n
  | d :: ds, n, h, e, he => by
    simp only [PyData.depthAll] at h
    rcases List.mem_cons.mp he with z | he
    · rw [z]; omega
    · exact depth_mem (by omega) e he
theorem perm_short {α : Type} : ∀ {out its : List α}, out.Perm its → its.length < 2 → out = its
  | _, [], hp, _ => List.perm_nil.mp hp
  | _, [x], hp, _ => List.perm_singleton.mp hp
  | _, _ :: _ :: _, _, z => by simp only [List.length_cons] at z; omega
theorem fSorted_ok (hu : X.A.units + 80 < cLine) : CallS X (.builtin "sorted") fSorted := by
  intro Wx pins s σ H g hd ws vs us I k rv r1 hxo
  unfold fSorted at hxo ⊢
  split at hxo
  · rename_i w
    split at hxo
    · rename_i xs e1
      split at hxo
      · rename_i ds e2
        obtain ⟨v, rfl, r⟩ := rels1 r1
        obtain ⟨a, vs1, rfl, hs, t⟩ := lst_of k r e1
        obtain ⟨its, rvs, hl, hz⟩ := I.list hs
        obtain ⟨u, rfl, ru⟩ := rv.one
        cases ru
        obtain ⟨bs, hb1, hb2, hb3, hb4⟩ := sorted_bs k t e2
        have hlen : its.length = xs.length := by rw [← rvs.length, ← t.length]
        obtain ⟨as, rds⟩ := Dp.readsAll I ds vs1 its (dps_of (fun w _ v d r e => dp_of k 64 r e) t e2) rvs
        have fin : ∀ {out : List Value} {ws' : List W} {vs' : List V}, Vals vs' out → Rels X.K X.tb H g ws' vs' → out.length ≤ sizeLine →
            OkE X pins σ H g (.ok (.fl ws') hd) (.ref (s.heap.objs.size + 1)) { s with heap := PyProof.Rows.sortedAll s.heap its out.toArray } := fun {out ws' vs'} rv' rr hz' => by
          obtain ⟨ep, he'⟩ := PyProof.Rows.sortedAll_at s.heap its out.toArray
          have hn : H (s.heap.objs.size + 1) = none := I.hok.fresh (Nat.le_succ _)
          exact ⟨.fl ws', hd, .ref _, upd H (s.heap.objs.size + 1) (.lst vs'), g.frz (s.heap.objs.size + 1), rfl, I.laid (t' := s.toks) (fun _ _ => PyProof.Rows.sortedAll_old) (Nat.le_succ _) ⟨by rw [rv'.length]; exact hz', out, ep, rv', he'⟩, rfl,
            Ext.newF k hn, Hr.newF k hn, .fl ⟨upd_same, .inr rfl⟩ ((Ext.newF k hn).rels rr) .nil⟩
        split at hxo
        · rename_i hc
          obtain ⟨hc1, hc2⟩ := hc
          try rw [if_pos ⟨hc1, hc2⟩]
          obtain ⟨hal, hso⟩ := sortB_ok hc1
          have rvs' := rvs
          rw [← hb2] at rvs'
          have rds' := rds
          rw [← hb3] at rds' hal hso
          have lenb : bs.length ≤ sizeLine := by rw [← List.length_map (f := fun b : W × V × PyData => b.1), hb1, ← hlen, ← rvs.length]; exact hz
          have hun : ∀ b, b ∈ bs → X.A.units + 2 + ((fun b : W × V × PyData => b.2.2) b).depth < cLine := fun b hb => by
            have := dep_of 64 (hb4 b hb).2
            show X.A.units + 2 + b.2.2.depth < cLine
            omega
          refine PySem.W.sorted_data (prog := X.prog) (w := X.w) (A := X.A) (s := s) (l := a) (vs := its) (bs := bs) (enc := fun b => b.2.2) (R := fun u b => RelV b.2.1 u) hl.isList (vals_each rvs') (reads_each rds') hal hso lenb hun fun out hol hout => ?_
          · have rel' := rels_of_bs (K := X.K) (tb := X.tb) (H := H) (g := g) (bs := bs.mergeSort (PySem.W.dataLe false fun b => b.2.2)) fun b hb => (hb4 b (List.mem_mergeSort.mp hb)).1
            have eW : (bs.mergeSort (PySem.W.dataLe false fun b => b.2.2)).map (·.1) = sortW ds xs := by
              unfold sortW
              have T := PySem.W.sortLe_total (PyProof.Rows.listOrd PyProof.Rows.itemOrd) false fun b : W × V × PyData => PySem.W.keyToks b.2.2
              have hm : (ds.map PySem.W.keyToks).zip xs = bs.map fun b => (PySem.W.keyToks b.2.2, b.1) := by
                rw [← hb3, ← hb1, List.map_map, List.zip_map']
                rfl
              rw [hm, isortB_map (le := PySem.W.dataLe false fun b : W × V × PyData => b.2.2) (fun b => (PySem.W.keyToks b.2.2, b.1)) (fun a b => rfl), List.map_map, isortB_eq (le := PySem.W.dataLe false fun b : W × V × PyData => b.2.2) T.trans fun x y => Bool.or_eq_true _ _ |>.mpr (T.total x y)]
              rfl
            rw [← eW]
            exact fin (each_vals hout) rel' (by rw [hol, ← List.length_map (f := fun b : W × V × PyData => b.1), hb1, ← hlen, ← rvs.length]; exact hz)
        · rename_i hc
          try rw [if_neg hc]
          split at hxo
          · rename_i h2
            try rw [if_pos h2]
            have O : SrtO.Swo (fun (_ _ : Value) => false) := ⟨fun _ _ z => (nomatch z), fun _ _ _ _ _ => rfl⟩
            have hz2 : its.length ≤ sizeLine := by rw [← rvs.length]; exact hz
            have n2 : ¬ 2 ≤ its.length := by omega
            have key := @SrtO.sorted_ord X.prog X.w X.A X.xe s a its (fun _ _ => false) (OkE X pins σ H g (.ok (.fl xs) hd)) O hl.isList hz2 (fun h => (n2 h).elim)
            apply key
            intro out h1 h3
            have eo : out = its := perm_short h3.perm (by omega)
            rw [eo]
            exact fin rvs t (by rw [← rvs.length]; exact hz)
          · exact hxo.elim
      · exact hxo.elim
    · exact hxo.elim
  · exact hxo.elim
end
end EV

set_option Elab.async false
set_option linter.all false
set_option maxRecDepth 100000
set_option maxHeartbeats 4000000
namespace EV
open PySem PySem.Spec L2

/-! ## exceptions -/
def mRaise (c : Str) : Sg → Hd → RS := fun σ h => .exc c σ h
section
variable {X : Cx} {Wx : WX}
theorem s_raise {x m : Str} {j : Nat} {p p2 p3 pos : Pos} {C : Addr} {bmB : List Value} {B newId initId : String} (hc : X.calm = true) (tk : L2N.Takes X Wx) (F : ExcBaseFacts B newId initId bmB) (q : PySem.W.excIn X.K C bmB newId = true) (gC : X.mg x = some (.ref C))
    (kC : PySem.W.keepIn X.K (.ref C) = true) (r : Raises X (.ref C)) (hg : Gl X x) (hdb : (x == ("__debug__" : Str)) = false := by decide) : SS X Wx (.Raise (some (.Call (.Name x p) [.Constant (.str m) j p2] [] p3)) none pos) (mRaise x) :=
  PSwk (L2N.ps_raise hc tk (L2N.pmk_own F q gC kC r hg hdb)) fun D σ H ⟨σd, hd, g, k, sr, o⟩ => by
    have e : excV X.mg x = .ref C := by unfold excV; rw [gC]; rfl
    have z := o σ H g (.refl _ _) k sr
    rw [e] at z
    exact z

/-! ### isinstance of the exception in hand -/
theorem call_isP {a D : Addr} {oe : Obj} (hp : (a, oe) ∈ X.pn) (C : ExcC X.K D) (hz : L2N.Zn (.ref D) none oe) (hf : ∃ vs, oe.data = .fields vs) : CallR X (.builtin "isinstance") (rIsE X.K D a) := by
  intro pins s σ H xs us Q I r h
  obtain ⟨c, cv, b, rfl, hcv, e, q⟩ := h
  obtain ⟨u, u2, rfl, rx, rt⟩ := r.two
  cases rx
  have ec := hcv _ rt
  subst ec
  obtain ⟨hget, _⟩ := I.pin (a, oe) (List.mem_append_left _ hp)
  obtain ⟨vs, hv⟩ := hf
  have J : PySem.W.InstAt s.heap a oe D none := by
    obtain ⟨oc, od, oda, osl⟩ := oe
    obtain ⟨h1, h2, _⟩ := hz
    dsimp only at h1 h2 hv
    subst h1 h2 hv
    exact ⟨hget, rfl, rfl, trivial⟩
  exact PySem.W.kia_one (PySem.W.handS_kitx_exc C.hg C.hk C.hs C.hd C.ha C.hn C.ht C.hm) I.kIn J e (fun z => nomatch z) fun tk => ⟨.bl b, H, I.kept (t' := tk) fun _ _ z => z, rfl, q⟩
def isEw (b : Bool) (a : Nat) : W → Hd → R W := fun w h => match w with
  | .obj a' => if a' = a then .ok (.bl b) h else .bad
  | _ => .bad
def mIsE (b : Bool) (a : Nat) (m : Sg → Hd → R W) : Sg → Hd → R W := fun σ h => (m σ h).bind (isEw b a)
theorem s_isE {e ce : Expr} {pos p : Pos} {a D : Addr} {oe : Obj} {b : Bool} {me : Sg → Hd → R W} {c : V} {cv : Value} (hp : (a, oe) ∈ X.pn) (C : ExcC X.K D) (hz : L2N.Zn (.ref D) none oe) (hf : ∃ vs, oe.data = .fields vs) (ha : SE X Wx e me) (hc : PE X ce (tC c)) (hcv : ∀ u, RelV c u → u = cv)
    (hk : PySem.W.kitOne X.K (.ref D) cv = some b) (hg : Gl X "isinstance") (hm : X.mg "isinstance" = none)
    (he : starEach [e, ce] X.env = (false, eval e X.env) :: starEach [ce] X.env := by rfl) (hpl : (backTo pos (starEach [ce] X.env)).any (·.1) = false := by rfl) (hs2 : starEach [ce] X.env = [(false, eval ce X.env)] := by rfl) :
    SE X Wx (.Call (.Name "isinstance" p) [e, ce] [] pos) (mIsE b a me) := by
  refine SE.mk fun pins s σ H σd hd g I k sr hx => PySem.wpAny_Call_Name_kw (ld_blt I hg hm PyProof.Rows.boot_isinstance (PyProof.Rows.callWith_builtin1 ?_ he hpl) (by decide) (by decide))
  have hA : PA X [e, ce] (tCons (tE X Wx me) (tCons (tC c) tNil)) := pa_cons ha (pa_cons hc pa_nil hs2) he
  refine thn (hA.run pos pins s σ H (fun vs H' => ∃ w h1 v g', vs = [v, c] ∧ me σd hd = .ok w h1 ∧ Ext H g H' g' ∧ Hr X.K X.tb H' g' h1 ∧ Rel X.K X.tb H' g' w v) I ⟨σd, hd, g, k, sr, hx.bind1, fun w h1 e v H' g' x' k' r' => ⟨w, h1, v, g', rfl, e, x', k', r'⟩⟩) fun us s1 ⟨vs, H1, I1, rvs, w, h1, v, g1, evs, e1, x1, k1, r1⟩ => ?_
  subst evs
  have hx1 := XOk.bind2 hx e1 x1
  have ee : mIsE b a me σd hd = isEw b a w h1 := by unfold mIsE; rw [e1]; rfl
  rw [ee]
  cases w with
  | obj a' =>
    by_cases ea : a' = a
    · subst ea
      cases r1
      refine thn (call_isP hp C hz hf pins s1 σ H1 _ us (fun v' H' => v' = .bl b ∧ H' = H1) I1 rvs ⟨c, cv, b, rfl, hcv, hk, rfl, rfl⟩) fun u s2 ⟨v', H', I2, rv, ev, eH⟩ => ?_
      subst ev eH
      exact ⟨.bl b, h1, .bl b, H', g1, if_pos rfl, I2, rv, x1, k1, .bl .nil⟩
    · have z : XOk X Wx σ H1 g1 (if a' = a then (.ok (.bl b) h1 : R W) else .bad) := hx1
      rw [if_neg ea] at z
      exact z.elim
  | _ => exact hx1.elim
end

/-! ### a def called within an except suite -/
section
variable {X : Cx} {p : Addr × Obj} {k : Nat} {x : Str} {st : Stmt} {f : Addr} {fd : FuncData} {N ps : List Str}
theorem run_pin {pins : List (Addr × Obj)} {σ : St} {H : Hp} {s : Shared} {Q : VK} {us : List Value} {vs : List V} (hp : p ∈ X.pn) (F : Fun X.K x x st f fd) (hb : Binds X.K fd ps []) (S : FnScope N ps (defScope st)) (hr : L2H.RoomH (k + 1) X.A)
    (hbody : ∀ cdv : Value, L2H.RoomH k (X.A.deeper (PyProof.Rows.envOfC x (defScope st) s.heap.objs.size f cdv)) →
      ∃ t, PSs (L2H.cxH CX0 X.prog X.w X.K X.mg X.base N x (defScope st) f cdv X.A X.stack s H E0 p) (defBody st) t ∧ t { nx := fun _ _ => False, rt := Q } (L2.start N vs) H)
    (I : Inv X pins σ H s) (r : Vals vs us) (hl : vs.length = ps.length) : wpAny (model X.prog X.w) X.A (call (.ref f) us) (EP X pins σ Q) X.xe s := by
  obtain ⟨oc, od, kV, doc, pm, an, cdv, ct, osl, e, lk, hcd⟩ := F.ex
  subst e
  have pin := I.pin p (List.mem_append_left _ hp)
  have hpin : L2H.PinOk X.stack H s p := ⟨pin.1, pin.2.1, fun hm => (List.mem_cons.mp (I.stkSub p.1 hm)).elim pin.2.2.1 pin.2.2.2.1, pin.2.2.2.2⟩
  have hlu : us.length = ps.length := r.length ▸ hl
  have bind := hb s us I.kIn (by rw [List.append_nil]; exact hlu)
  rw [List.append_nil] at bind
  have kinds : ∀ y ∈ ps.zip us, (defScope st).names.lookup y.1 = some .local ∨ ((defScope st).names.lookup y.1 = some .cell ∧ ((cellsFrom (s.heap.objs.size + 1) (defScope st).names []).lookup y.1).isSome = true) := fun y hy =>
    (S.par y.1 (List.of_mem_zip (a := y.1) (b := y.2) hy).1).imp id fun q => ⟨q, PySem.W.cellsFrom_some _ _ _ (.inl q)⟩
  obtain ⟨t, ht, hq⟩ := hbody cdv (hr.deeper _)
  refine wpAny_call (codeAny_mono (R := CR CX0 X.stack X.prog X.w H s Q E0) ?_ fun r s' h => ?_)
  · refine codeAny_call_function hr.depth (I.kIn _ _ lk) rfl S.co S.gen rfl (PySem.W.codeRec_of I.kIn hcd) (bind _ _ _ _ ?_)
    refine wpAny_newFunctionEnv_cells S.kind kinds fun env he s1 x => ?_
    subst he
    refine ⟨I.nolimit.keeps x.toInCall.keep, codeAny_func ?_⟩
    refine wpAny_mono (ht.run [] s1 _ H _ (L2H.inv_startH S hpin I.env0 hl r x) hq) (fun fl s' hs => ?_) fun _ _ h => h
    cases fl with
    | ret u => exact let ⟨v, σ', H', J, rv, q⟩ := hs; ⟨v, H', J.os, J.bare, J.base, J.hok, rv, q⟩
    | next => exact let ⟨_, _, _, q⟩ := hs; q.elim
    | brk => exact let ⟨_, _, _, q⟩ := hs; False.elim q
    | cont => exact let ⟨_, _, _, q⟩ := hs; False.elim q
  · cases r with
    | error e => exact False.elim h
    | ok fl =>
      cases fl with
      | ret u => exact I.after h
      | next => exact False.elim h
      | brk => exact False.elim h
      | cont => exact False.elim h
end
end EV

set_option Elab.async false
set_option linter.all false
set_option maxRecDepth 100000
set_option maxHeartbeats 4000000
namespace EV
open PySem PySem.Spec L2

/-! ## l.index(x), l.count(x) -/
def rCountD (K : PySem.W.Frag) : V → List V → Hp → VK → Prop := fun x xs H Q => ∃ (a : Addr) (y : V) (d : PyData) (ds : List PyData), x = V.ref a ∧ xs = [y] ∧ Dp K H (V.ref a) (.list ds) ∧ Dp K H y d ∧ SeqAt.shaped (.list ds) = true ∧ SeqAt.shaped d = true ∧ Q (.int (ds.countP fun z => PyData.eqv z d : Nat)) H
section
variable {X : Cx}
theorem countP_map' {α β : Type} (f : α → β) (p : β → Bool) : ∀ l : List α, l.countP (fun x => p (f x)) = (l.map f).countP p
  | [] => rfl
  | x :: l => by rw [List.map_cons, List.countP_cons, List.countP_cons, countP_map' f p l]
theorem mt_countD (hu : X.A.units + 65 < cLine) : MtR X "list.count" (rCountD X.K) := by
  intro pins s σ H x xs v us Q I rx rxs h
  obtain ⟨a, y, d, ds, rfl, rfl, hl, hy, sl, sd, q⟩ := h
  cases rx
  obtain ⟨uy, rfl, ry⟩ := rxs.one
  obtain ⟨bs, r1⟩ := Dp.reads I d y uy hy ry
  have lay : PyData.canLayAll0 ds = true := SeqAt.canLay_of_shaped sl
  have room : X.A.units + 1 + min (PyData.depthAll ds) d.depth < cLine := PyProof.Rows.room_in_shaped sd hu
  cases hl with
  | lst hs ha =>
    obtain ⟨its, rv, ⟨⟨cls, dd, data, sls⟩, n, ho, hc, hdn, hdt⟩, hlen⟩ := I.list hs
    simp only at hc hdt
    subst hc hdt
    obtain ⟨as, r2⟩ := Dp.readsAll I ds _ its ha rv
    have emap : its.map (SeqAt.readOf s.heap) = ds := SeqAt.readsAll_map ds its as lay r2
    refine call_meets PySem.F.slot_list_count ⟨_, ho, rfl⟩ PySem.F.entry_list_count (PySem.F.args_list_count_2 _ _)
      (SeqAt.list_countAt a its.toArray n dd sls uy (fun u => PyData.eqv (SeqAt.readOf s.heap u) d)) ⟨ho, SeqAt.items_eqAt (vs := its.toArray) (show ReadsAll s.heap its.toArray.toList ds as from r2) r1 lay (SeqAt.canLay_of_shaped sd) room, ?_⟩
    refine ⟨.int (ds.countP fun z => PyData.eqv z d : Nat), H, I.tok _, ⟨s.toks, ?_⟩, q⟩
    have e : its.toArray.toList.countP (fun u => PyData.eqv (SeqAt.readOf s.heap u) d) = ds.countP fun z => PyData.eqv z d := by
      show its.countP _ = _
      rw [countP_map' (SeqAt.readOf s.heap) (fun z => PyData.eqv z d), emap]
    show Value.int _ s.toks = Value.int _ s.toks
    rw [← e]
end
def fIndex : Me := fun w ws h => match ws with
  | [y] => match toD h 64 w, toD h 64 y with
    | some (.list ds), some d => match ds.findIdx? fun z => PyData.eqv z d with
      | some j => .ok (.int j) h
      | none => .bad
    | _, _ => .bad
  | _ => .bad
def fCount : Me := fun w ws h => match ws with
  | [y] => match toD h 64 w, toD h 64 y with
    | some (.list ds), some d => .ok (.int (ds.countP fun z => PyData.eqv z d : Nat)) h
    | _, _ => .bad
  | _ => .bad
section
variable {X : Cx} {K : PySem.W.Frag} {tb : Addr → Prop} {H : Hp} {g : G}
theorem dp_ref {v : V} {ds : List PyData} (h : Dp K H v (.list ds)) : ∃ a, v = .ref a := by
  cases h with
  | lst _ _ => exact ⟨_, rfl⟩
theorem fCount_ok (hu : X.A.units + 65 < cLine) : MeS X "list.count" fCount := by
  refine ⟨_, mt_countD hu, fun w ws h c h' e => ?_, fun H g hd w v ws vs w' hd' Q k r rs e q => ?_⟩
  · unfold fCount at e
    repeat' split at e
    all_goals cases e
  · unfold fCount at e
    split at e
    · split at e
      · cases e
        rename_i y _ _ ds d e1 e2
        obtain ⟨y', rfl, ry⟩ := rels1 rs
        have d1 := dp_of k 64 r e1
        obtain ⟨a, rfl⟩ := dp_ref d1
        exact ⟨a, y', _, _, rfl, rfl, d1, dp_of k 64 ry e2, shaped_of e1, shaped_of e2, q _ _ _ (.refl _ _) k (.int .nil)⟩
      · cases e
    · cases e
theorem fIndex_ok (hu : X.A.units + 65 < cLine) : MeS X "list.index" fIndex := by
  refine ⟨_, mt_indexD hu, fun w ws h c h' e => ?_, fun H g hd w v ws vs w' hd' Q k r rs e q => ?_⟩
  · unfold fIndex at e
    repeat' split at e
    all_goals cases e
  · unfold fIndex at e
    split at e
    · split at e
      · split at e
        · cases e
          rename_i y _ _ ds d e1 e2 _ j ej
          obtain ⟨y', rfl, ry⟩ := rels1 rs
          have d1 := dp_of k 64 r e1
          obtain ⟨a, rfl⟩ := dp_ref d1
          obtain ⟨hj, h1, h2⟩ := List.findIdx?_eq_some_iff_getElem.mp ej
          refine ⟨a, y', d, ds, j, ds[j], rfl, rfl, d1, dp_of k 64 ry e2, shaped_of e1, shaped_of e2, List.getElem?_eq_getElem hj, h1, fun m z hm hz => ?_, q _ _ _ (.refl _ _) k (.int .nil)⟩
          obtain ⟨hl, rfl⟩ := List.getElem?_eq_some_iff.mp hz
          simpa using h2 m hm
        · cases e
      · cases e
    · cases e
end

/-! ## try: .. except E as e: return word(e) -/
/-- x names a def that tells an exception of the class cls as the text z -/
structure WordV (P : Program) (w : World) (K : PySem.W.Frag) (mg : Str → Option Value) (base : Heap) (k : Nat) (x : Str) (cls : Value) (z : Str) : Prop where
  ex : ∃ (st : Stmt) (f : Addr) (fd : FuncData) (N ps : List Str) (m : Addr → Sg → Hd → RS), Fun K x x st f fd ∧ mg x = some (.ref f) ∧ Binds K fd ps [] ∧ FnScope N ps (defScope st) ∧ ps.length = 1 ∧
    (∀ (cdv : Value) (A : Around) (outer : List Env) (s : Shared) (H : Hp) (a : Addr) (oe : Obj), L2N.Zn cls none oe → (∃ vs, oe.data = .fields vs) → L2H.RoomH k (A.deeper (PyProof.Rows.envOfC x (defScope st) s.heap.objs.size f cdv)) →
      SSs (L2H.cxH CX0 P w K mg base N x (defScope st) f cdv A outer s H E0 (a, oe)) WF (defBody st) (m a)) ∧
    ∀ a hd, m a (startW N.length [.obj a]) hd = .rt (.str z) hd
def tWord (X : Cx) (k i : Nat) (wx : Str) (a : Addr) (cls : Value) (d : Option Addr) : TS := fun D σ H => ∃ (z : Str) (σ0 : St) (hd : Hd) (g : G), WordV X.prog X.w X.K X.mg X.base k wx cls z ∧ d = none ∧ σ = σ0.set i (some (.ref a)) ∧ Hr X.K X.tb H g hd ∧
  ∀ v H' g', Ext H g H' g' → Hr X.K X.tb H' g' hd → Rel X.K X.tb H' g' (.str z) v → D.rt v H'
def mTryW (wordOf : Str → Option Str) (m : Sg → Hd → RS) : Sg → Hd → RS := fun σ h => match m σ h with
  | .exc c _ h1 => match wordOf c with
    | some z => .rt (.str z) h1
    | none => .bad
  | r => r
section
variable {X : Cx} {Wx : WX} {k i : Nat} {wx n x : Str} {p1 p2 p3 np pos pos' : Pos} {body : List Stmt} {b₀ : Stmt} {cR : Value} {mb : Sg → Hd → RS} {wordOf : Str → Option Str}
theorem ps_word {a : Addr} {oe : Obj} {cls : Value} {d : Option Addr} {pn : List (Addr × Obj)} (hz : L2N.Zn cls d oe) (hf : ∃ vs, oe.data = .fields vs) (hi : X.N[i]? = some n) (hln : X.env.kindOf n = some .local) (hr : Room (k + 1) X.A) (hg : Gl X wx)
    (hk : ∀ f, X.mg wx = some (.ref f) → PySem.W.keepIn X.K (.ref f) = true) (hdb : (wx == ("__debug__" : Str)) = false) (hdn : (n == ("__debug__" : Str)) = false) (hcn : (n == ("__classdict__" : Str)) = false)
    (hs : starEach [.Name n p2] X.env = [(false, eval (.Name n p2) X.env)]) :
    PSs (X.suite a ((a, oe) :: pn)) [.Return (some (.Call (.Name wx p1) [.Name n p2] [] p3)) pos] (tWord X k i wx a cls d) := by
  refine pss_one ⟨fun pins s σ H D I h => ?_⟩
  obtain ⟨z, σ0, hd, g, W, rfl, eσ, kk, q⟩ := h
  obtain ⟨st, f, fd, N, ps, m, F, hm, hb, S, hl1, hbody, hmz⟩ := W.ex
  have pe : PE (X.suite a ((a, oe) :: pn)) (.Call (.Name wx p1) [.Name n p2] [] p3) (fun σ H Q => σ = σ0.set i (some (.ref a)) ∧ Hr X.K X.tb H g hd ∧ ∀ v H' g', Ext H g H' g' → Hr X.K X.tb H' g' hd → Rel X.K X.tb H' g' (.str z) v → Q v H') := by
    refine ⟨fun pins s σ H Q I ⟨eσ, kk, q⟩ => ?_⟩
    have hlen : i < σ0.length := by
      have h1 := I.len
      rw [eσ, List.length_set] at h1
      rw [h1]
      exact (List.getElem?_eq_some_iff.mp hi).1
    refine PySem.wpAny_Call_Name_kw (ld_glob (X := X.suite a ((a, oe) :: pn)) I hg hm ?_ hdb)
    have ha : PA (X.suite a ((a, oe) :: pn)) [.Name n p2] (tCons (tVar i) tNil) := pa_cons (pe_var hi (.inl hln) hdn hcn) pa_nil hs
    refine PySem.W.callWith_K (h₀ := X.base) I.ok.mod.kin (hk f hm) (thn (ha.run p3 pins s σ H (fun vs H1 => vs = [V.ref a] ∧ H1 = H) I ⟨.ref a, by rw [eσ]; exact List.getElem?_set_self hlen, rfl, rfl⟩) fun us s1 ⟨vs, H1, I1, r1, ev, eH⟩ => ?_) hs (by rfl)
    subst ev eH
    refine ⟨I1.kIn, ?_⟩
    refine run_pin (X := X.suite a ((a, oe) :: pn)) (p := (a, oe)) List.mem_cons_self F hb S (k := k) ⟨hr.dp, hr.un⟩ (fun cdv hrr => ⟨_, hbody cdv _ _ _ _ a oe hz hf hrr, startW N.length [.obj a], hd, g, kk, start_sr (vs := [V.ref a]) (.obj .nil), ?_⟩) I1 r1 hl1.symm
    rw [hmz]
    exact fun v H' g' x' k' r' => q v H' g' x' k' r'
  exact (ps_ret pe).run pins s σ H D I ⟨eσ, kk, q⟩
theorem s_tryW (hst : X.stack = X.env :: X.outer) (hfr : X.env.frame = some X.env.locals) (hN : X.N.Nodup) (hi : X.N[i]? = some n) (hln : X.env.kindOf n = some .local) (hc : Names X x cR) (tk : L2N.Takes X Wx) (hr : Room (k + 1) X.A) (hg : Gl X wx)
    (hk : ∀ f, X.mg wx = some (.ref f) → PySem.W.keepIn X.K (.ref f) = true) (hdb : (wx == ("__debug__" : Str)) = false) (hdn : (n == ("__debug__" : Str)) = false) (hcn : (n == ("__classdict__" : Str)) = false)
    (hs : starEach [.Name n p2] X.env = [(false, eval (.Name n p2) X.env)])
    (hb : ∀ (W : WX) (pn : List (Addr × Obj)) (xe : Value → Shared → Prop), L2N.Takes (X.tr pn xe) W → PassesOwn (model X.prog X.w) X.A X.env xe → SSs (X.tr pn xe) W body mb)
    (hw : ∀ c z, wordOf c = some z → PySem.W.exmOne X.K (excV X.mg c) cR = some true ∧ WordV X.prog X.w X.K X.mg X.base k wx (excV X.mg c) z) :
    SS X Wx (.Try body [.ExceptHandler (some (.Name x np)) (some n) [.Return (some (.Call (.Name wx p1) [.Name n p2] [] p3)) p4] pos'] [] [] pos) (mTryW wordOf mb) := by
  refine PSwk (L2N.ps_try_as (tb := fun W => tS X W mb) (ts := fun a cls d => tWord X k i wx a cls d) hst hfr hN hi hln hc tk hb (fun a oe cls d pn hz hf => ps_word hz hf hi hln hr hg hk hdb hdn hcn hs)) fun D σ H ⟨σd, hd, g, kk, sr, ok⟩ => ⟨σd, hd, g, kk, sr, ?_⟩
  unfold mTryW at ok
  cases e : mb σd hd with
  | exc c σ1 h1 =>
    rw [e] at ok
    dsimp only at ok
    cases ez : wordOf c with
    | none => rw [ez] at ok; exact ok.elim
    | some z =>
      rw [ez] at ok
      obtain ⟨h2, h3⟩ := hw c z ez
      exact fun σ' H' g' x' k' s' => ⟨true, h2, fun _ a ha => ⟨z, σ', h1, g', h3, rfl, rfl, k', fun v H2 g2 x2 k2 r2 => ok v H2 g2 (x'.trans x2) k2 r2⟩, fun z => nomatch z⟩
  | bad => rw [e] at ok; exact ok
  | nx σ1 h1 => rw [e] at ok; exact ok
  | bk σ1 h1 => rw [e] at ok; exact ok
  | ct σ1 h1 => rw [e] at ok; exact ok
  | rt w h1 => rw [e] at ok; exact ok
end
end EV

set_option Elab.async false
set_option linter.all false
set_option maxRecDepth 100000
set_option maxHeartbeats 4000000
namespace EV
open PySem PySem.Spec L2

/-! ## [.. for .. in .. for .. in ..] -/
def lc2Step (gm : W → Sg → Hd → Option Sg) (mt : Sg → Hd → R Bool) (mi1 : Sg → Hd → R Iw) (gm1 : W → Sg → Hd → Option Sg) (mt1 : Sg → Hd → R Bool) (me : Sg → Hd → R W) (vs1 : List Nat) (σ : Sg) : W → Hd → R (List W) := fun x h => match gm x σ h with
  | none => .bad
  | some σ2 => match mt σ2 h with
    | .ok true h3 => match mi1 σ2 h3 with
      | .ok it1 h4 => lcRun (lcStep gm1 mt1 me (wipeS σ2 vs1)) it1 h4
      | _ => .bad
    | .ok false h3 => .ok [] h3
    | _ => .bad
section
variable {X : Cx} {Wx : WX} {mi mi1 : Sg → Hd → R Iw} {gm gm1 : W → Sg → Hd → Option Sg} {is is1 : List Nat} {mt mt1 : Sg → Hd → R Bool} {me : Sg → Hd → R W} {vs vs1 : List Nat}
/-- one turn of the block, in the ghost of the list that grows -/
theorem lc_turn {D : Addr} {w' : W} {v : V} {H : Hp} {g : G} {hd h' : Hd} {acc : List V} {aw a : List W} {Nx : Hp → Prop} {sd : Sg} {st : St} (his : ∀ i ∈ is, i ∈ vs) (hw : wipe st vs = st) (l : LI X.K X.tb D H g hd acc aw) (sr : Sr X.K X.tb H g sd st) (r : Rel X.K X.tb H g w' v)
    (e : lcStep gm mt me sd w' hd = .ok a h') (hz : acc.length + a.length ≤ 16777216) (hN : ∀ H' g' acc', Ext H g H' g' → LI X.K X.tb D H' g' h' acc' (aw ++ a) → Nx H') :
    tCg X gm is v st H (fun σ2 H2 => wipe σ2 vs = wipe st vs ∧ tT X WF mt σ2 H2 fun b H3 => if b = true then tE X WF me σ2 H3 fun y H4 => ∃ acc, H4 D = some (.lst acc) ∧ acc.length < sizeLine ∧ Nx (upd H4 D (.lst (acc ++ [y]))) else Nx H3) := by
  unfold lcStep at e
  split at e
  · cases e
  · rename_i σd2 em
    refine ⟨w', _, hd, g.gd D, l.guard, Sr.mono (g := g) (g' := g.gd D) (fun _ h => h) rfl sr, Rels.mono (g := g) (g' := g.gd D) (fun _ h => h) rfl r, σd2, em, fun σ2 s2 hw2 => ⟨hw2 vs his, ?_⟩⟩
    split at e
    · rename_i h3 et
      split at e
      · rename_i w4 h4 eme
        cases e
        refine ⟨σd2, hd, g.gd D, l.guard, s2, xok_of et, fun b h3' et' H3 g3 x3 k3 => ?_⟩
        rw [et] at et'
        cases et'
        refine ⟨σd2, h3, g3, k3, s2.ext x3, xok_of eme, fun w4' h4' eme' y H4 g4 x4 k4 r4 => ?_⟩
        rw [eme] at eme'
        cases eme'
        obtain ⟨x5, l5⟩ := l.unguard (x3.trans x4) k4
        obtain ⟨x6, l6⟩ := l5.put (Rels.mono (g := g4) (g' := g4.un g) (fun _ h => h) rfl r4)
        exact ⟨acc, l5.hD, Nat.lt_of_lt_of_le (show acc.length < 16777216 by simp only [List.length_cons, List.length_nil] at hz; omega) line_lit, hN _ _ _ (x5.trans x6) l6⟩
      · cases e
    · rename_i h3 et
      cases e
      refine ⟨σd2, hd, g.gd D, l.guard, s2, xok_of et, fun b h3' et' H3 g3 x3 k3 => ?_⟩
      rw [et] at et'
      cases et'
      obtain ⟨x5, l5⟩ := l.unguard x3 k3
      rw [List.append_nil] at hN
      exact hN _ _ _ x5 l5
    · cases e
theorem wipe_sub {σ2 st : St} {vs vs1 : List Nat} (h : ∀ i ∈ vs1, i ∈ vs) (e : wipe σ2 vs = st) : wipe (wipe σ2 vs1) vs = st := by
  rw [← e]
  apply List.ext_getElem?
  intro j
  rw [wipe_get, wipe_get, wipe_length, wipe_get]
  by_cases hj : j ∈ vs
  · rw [if_pos hj, if_pos hj]
  · rw [if_neg hj, if_neg hj, if_neg fun z => hj (h j z)]
theorem lc2_core {σd : Sg} {hd : Hd} {g : G} {σ : St} {H : Hp} {Q : VK} {end_ : R (List W) → R W} (his : ∀ i ∈ is, i ∈ vs) (his1 : ∀ i ∈ is1, i ∈ vs1) (k : Hr X.K X.tb H g hd) (sr : Sr X.K X.tb H g σd σ)
    (hx : XOk X Wx σ H g ((mi σd hd).bind fun it h1 => end_ (lcRun (lc2Step gm mt mi1 gm1 mt1 me vs1 (wipeS σd vs)) it h1)))
    (q : OkQ X H g ((mi σd hd).bind fun it h1 => end_ (lcRun (lc2Step gm mt mi1 gm1 mt1 me vs1 (wipeS σd vs)) it h1)) Q)
    (hE : ∀ {r : R (List W)} {H1 : Hp} {g1 : G}, XOk X Wx σ H1 g1 (end_ r) → ∃ ws hd' w h2, r = .ok ws hd' ∧ ws.length ≤ 16777216 ∧ end_ r = .ok w h2 ∧ ∀ D H2 g2 acc, LI X.K X.tb D H2 g2 hd' acc ws → ∃ g3, Ext H2 g2 H2 g3 ∧ Hr X.K X.tb H2 g3 h2 ∧ Rel X.K X.tb H2 g3 w (.ref D)) :
    tLc2 (tI X Wx mi) (tCg X gm is) (tT X WF mt) (tI X WF mi1) (tCg X gm1 is1) (tT X WF mt1) (tE X WF me) vs vs1 σ H Q := by
  refine ⟨σd, hd, g, k, sr, hx.bind1, fun it h1 e1 J H1 g1 x1 k1 ir D hD => ?_⟩
  have hx1 := XOk.bind2 hx e1 x1
  obtain ⟨ws, hd', w, h2, er, hz, ee, fin⟩ := hE hx1
  obtain ⟨x2, l2⟩ := LI.start k1 hD
  have s2 := ((sr.ext x1).ext x2).wipe vs
  refine lc_loop ir x2.w l2 er (by simpa using hz) (fun w' v H g hd acc aw a h' Nx l x r e hz hN => ?_) fun H2 g2 acc x l => ?_
  · unfold lc2Step at e
    split at e
    · cases e
    · rename_i σd2 em
      refine ⟨w', _, hd, g.gd D, l.guard, Sr.mono (g := g) (g' := g.gd D) (fun _ h => h) rfl (s2.ext x), Rels.mono (g := g) (g' := g.gd D) (fun _ h => h) rfl r, σd2, em, fun σ2 s2 hw => ⟨(hw vs his).trans (wipe_wipe σ vs), ?_⟩⟩
      split at e
      · rename_i h3 et
        split at e
        · rename_i it1 h4 ei
          refine ⟨σd2, hd, g.gd D, l.guard, s2, xok_of et, fun b h3' et' H3 g3 x3 k3 => ?_⟩
          rw [et] at et'
          cases et'
          refine ⟨σd2, h3, g3, k3, s2.ext x3, xok_of ei, fun it1' h4' ei' J1 H4 g4 x4 k4 ir1 => ?_⟩
          rw [ei] at ei'
          cases ei'
          obtain ⟨x5, l5⟩ := l.unguard (x3.trans x4) k4
          have sr5 : Sr X.K X.tb H4 (g4.un g) (wipeS σd2 vs1) (wipe σ2 vs1) := (Sr.mono (g := g4) (g' := g4.un g) (fun _ h => h) rfl ((s2.ext x3).ext x4)).wipe vs1
          exact lc_loop (H1 := H4) (g1 := g4) (H0 := H4) (g0 := g4.un g) ir1 ⟨fun _ _ h => h, fun _ _ _ h => h, fun _ h => ⟨h, rfl⟩, List.prefix_refl _⟩ l5 e hz (fun w'' v' H' g' hd'' acc' aw' a' h'' Nx' l' x' r' e' hz' hN' => by
              have z := lc_turn (Nx := Nx') his1 (wipe_wipe σ2 vs1) l' (sr5.ext x') r' e' hz' hN'
              rw [wipe_wipe] at z
              exact z) fun H' g' acc' x' l' => hN _ _ _ (x5.trans x') l'
        · cases e
      · rename_i h3 et
        cases e
        refine ⟨σd2, hd, g.gd D, l.guard, s2, xok_of et, fun b h3' et' H3 g3 x3 k3 => ?_⟩
        rw [et] at et'
        cases et'
        obtain ⟨x5, l5⟩ := l.unguard x3 k3
        rw [List.append_nil] at hN
        exact hN _ _ _ x5 l5
      · cases e
  · obtain ⟨g3, x3, k3, r3⟩ := fin D H2 g2 acc l
    exact q w h2 (by rw [e1]; exact ee) _ _ _ (((x1.trans x2).trans x).trans x3) k3 r3
variable {elt tg iter tg1 iter1 : Expr} {ifs ifs1 : List Expr} {scope : Scope} {own : List (Str × Nat)} {pos : Pos}
structure LcB2 (X : Cx) (elt tg iter tg1 iter1 : Expr) (ifs ifs1 : List Expr) (scope : Scope) (own : List (Str × Nat)) (vs1 : List Nat) (gm : W → Sg → Hd → Option Sg) (is : List Nat) (mt : Sg → Hd → R Bool) (mi1 : Sg → Hd → R Iw) (gm1 : W → Sg → Hd → Option Sg) (is1 : List Nat) (mt1 : Sg → Hd → R Bool) (me : Sg → Hd → R W) : Prop where
  hc : X.calm = true
  hN : X.N.Nodup
  ok : BlkOk X.N X.env.scope scope own
  hv : ∀ i ∈ vs1, i ∈ own.map (·.2)
  his : ∀ i ∈ is, i ∈ own.map (·.2)
  his1 : ∀ i ∈ is1, i ∈ vs1
  hs : ∀ x, foldedSetIterable iter X.env x = pure x
  hs1 : ∀ env x, foldedSetIterable iter1 env x = pure x
  b : ∀ (s : Shared) (H : Hp) (C : Addr) (cl : List (Str × Addr)) (fp : List Addr), (SC (X.blk s H scope (compEnvC scope cl C X.env) fp) tg gm is ∧ PTs (X.blk s H scope (compEnvC scope cl C X.env) fp) ifs (tT (X.blk s H scope (compEnvC scope cl C X.env) fp) WF mt)) ∧
    SI (X.blk s H scope (compEnvC scope cl C X.env) fp) WF tg1 iter1 mi1 ∧ SC (X.blk s H scope (compEnvC scope cl C X.env) fp) tg1 gm1 is1 ∧ PTs (X.blk s H scope (compEnvC scope cl C X.env) fp) ifs1 (tT (X.blk s H scope (compEnvC scope cl C X.env) fp) WF mt1) ∧ SE (X.blk s H scope (compEnvC scope cl C X.env) fp) WF elt me
def mLc2 (vs vs1 : List Nat) (mi : Sg → Hd → R Iw) (gm : W → Sg → Hd → Option Sg) (mt : Sg → Hd → R Bool) (mi1 : Sg → Hd → R Iw) (gm1 : W → Sg → Hd → Option Sg) (mt1 : Sg → Hd → R Bool) (me : Sg → Hd → R W) : Sg → Hd → R W := fun σ h => (mi σ h).bind fun it h1 => lcEnd (lcRun (lc2Step gm mt mi1 gm1 mt1 me vs1 (wipeS σ vs)) it h1)
def mLc2N (vs vs1 : List Nat) (mi : Sg → Hd → R Iw) (gm : W → Sg → Hd → Option Sg) (mt : Sg → Hd → R Bool) (mi1 : Sg → Hd → R Iw) (gm1 : W → Sg → Hd → Option Sg) (mt1 : Sg → Hd → R Bool) (me : Sg → Hd → R W) : Sg → Hd → R W := fun σ h => (mi σ h).bind fun it h1 => lcEndN (lcRun (lc2Step gm mt mi1 gm1 mt1 me vs1 (wipeS σ vs)) it h1)
theorem s_lc2 (B : LcB2 X elt tg iter tg1 iter1 ifs ifs1 scope own vs1 gm is mt mi1 gm1 is1 mt1 me) (hi : SI X Wx tg iter mi) : SE X Wx (.ListComp elt [⟨tg, iter, ifs, 0⟩, ⟨tg1, iter1, ifs1, 0⟩] scope pos) (mLc2 (own.map (·.2)) vs1 mi gm mt mi1 gm1 mt1 me) :=
  ⟨fun pins s σ H Q I ⟨σd, hd, g, k, sr, hx, q⟩ => (pe_lc2 (g := tCg X gm is) (tt := tT X WF mt) (wi1 := tI X WF mi1) (g1 := tCg X gm1 is1) (tt1 := tT X WF mt1) (te := tE X WF me) B.hc B.hN hi B.ok B.hv (fun s H C cl fp => (B.b s H C cl fp).1.1) (fun s H C cl fp => (B.b s H C cl fp).1.2) (fun s H C cl fp => (B.b s H C cl fp).2.1) (fun s H C cl fp => (B.b s H C cl fp).2.2.1) (fun s H C cl fp => (B.b s H C cl fp).2.2.2.1) (fun s H C cl fp => (B.b s H C cl fp).2.2.2.2) B.hs B.hs1).run pins s σ H Q I
    (lc2_core (end_ := lcEnd) B.his B.his1 k sr hx q lcEnd_ok)⟩
theorem s_lc2N (B : LcB2 X elt tg iter tg1 iter1 ifs ifs1 scope own vs1 gm is mt mi1 gm1 is1 mt1 me) (hi : SI X Wx tg iter mi) : SE X Wx (.ListComp elt [⟨tg, iter, ifs, 0⟩, ⟨tg1, iter1, ifs1, 0⟩] scope pos) (mLc2N (own.map (·.2)) vs1 mi gm mt mi1 gm1 mt1 me) :=
  ⟨fun pins s σ H Q I ⟨σd, hd, g, k, sr, hx, q⟩ => (pe_lc2 (g := tCg X gm is) (tt := tT X WF mt) (wi1 := tI X WF mi1) (g1 := tCg X gm1 is1) (tt1 := tT X WF mt1) (te := tE X WF me) B.hc B.hN hi B.ok B.hv (fun s H C cl fp => (B.b s H C cl fp).1.1) (fun s H C cl fp => (B.b s H C cl fp).1.2) (fun s H C cl fp => (B.b s H C cl fp).2.1) (fun s H C cl fp => (B.b s H C cl fp).2.2.1) (fun s H C cl fp => (B.b s H C cl fp).2.2.2.1) (fun s H C cl fp => (B.b s H C cl fp).2.2.2.2) B.hs B.hs1).run pins s σ H Q I
    (lc2_core (end_ := lcEndN) B.his B.his1 k sr hx q lcEndN_ok)⟩
end
end EV

set_option Elab.async false
set_option linter.all false
set_option maxRecDepth 100000
set_option maxHeartbeats 4000000
namespace EV
open PySem PySem.Spec L2 PyProof.Rows

/-! ## list(reversed(a list)) -/
section
variable {prog : Program} {w : World} {A : Around} {E : Value → Shared → Prop} {s : Shared}
/-- the empty list at S takes what the reverse iterator at it gives -/
theorem rv_fill {R : Result → Shared → Prop} {it l S : Addr} {items : Array Value} {res : Value} {c₀ : Nat} (hh : A.handled = none) (hit : s.heap.IsRevIter it l ((items.size : Int) - 1)) (hl : s.heap.IsList l items) (hne : l ≠ it) (hSi : S ≠ it) (hSl : S ≠ l) (hn : items.size ≤ sizeLine)
    (hS : s.heap.get? S = some { cls := .type "list", data := .seq #[] c₀ })
    (hR : ∀ h' tk acc' c', (∀ b o, b ≠ S → b ≠ it → s.heap.get? b = some o → h'.get? b = some o) → h'.get? S = some { cls := .type "list", dict := none, data := .seq acc' c', slots := #[] } → ItemsOf (fun i v => items[items.size - 1 - i]? = some v) acc' items.size → R (.ok (.ret res)) { s with heap := h', toks := tk }) :
    wpAny (model prog w) A.in1 (Builtin.List.listExtendWith (.ref S) (.ref it) res)
      (fun fin s' => match fin with | .done f => R (.ok f) s' | .again c' => c'.quiet = true ∧ codeAny (model prog w) A c' R s') (fun e s' => R (.error e) s') s := by
  have W := (Walks.listRev (prog := prog) (w := w) (A := A.in1) hh it l hne items).toS
  have hSf : S ∉ [it, l] := by simp only [List.mem_cons, List.not_mem_nil, or_false, not_or]; exact ⟨hSi, hSl⟩
  have hT : s.TypeIs (.ref it) "list_reverseiterator" := hit.typeIs
  have h1 : Builtin.List.listSameRef (.ref S) (.ref it) = false := by simp [Builtin.List.listSameRef, hSi]
  unfold Builtin.List.listExtendWith
  refine wpAny_bind (wpAny_typeOf hT ?_)
  rw [if_neg (by rw [h1]; decide)]
  refine wpAny_bind (wpAny_pyIter_revIter hit (wpAny_bind (wpAny_holding ?_)))
  unfold Builtin.List.listLengthHint
  refine wpAny_bind (wpAny_specialOf hT RT.nolen_lri ?_)
  show wpAny _ A.in1 (specialOf (Value.ref it) (Str.ofString "__length_hint__") >>= _) _ _ _
  refine wpAny_bind (wpAny_specialOf hT RT.hint_lri ?_)
  generalize hid : ("list_reverseiterator.__length_hint__" : String) = id0
  wp_delta
  rw [show splitId id0 = some ("list_reverseiterator", "__length_hint__") from by subst hid; decide +kernel]
  subst hid
  refine wpAny_bind (wpAny_isInstance (b := true) hT (by rw [isSubtype_type]; kernel_rfl) (wpAny_pure ?_))
  rw [if_neg (by decide)]
  have e0 : ((items.size : Nat) : Int) - 1 - ((0 : Nat) : Int) = (items.size : Int) - 1 := by omega
  refine wpAny_pure ⟨plainId_quiet PySem.F.plain_extend_loop _, codeAny_extend_loopS W hn _ hSf res items.size 0 _ _ _ rfl (Nat.zero_le _) ⟨Nat.zero_le _, by rw [e0]; exact hit, hl⟩ hS (ItemsOf.nil _) fun s' acc' c' hm hS' hacc => ?_⟩
  rw [Moved.eq_with hm]
  refine hR s'.heap s'.toks acc' c' (fun b o hb hb2 e => hm.heap b o (fun hmem => ?_) e) hS' hacc
  rcases List.mem_cons.mp hmem with e' | hmem
  · exact hb e'
  · exact hb2 (List.mem_singleton.mp hmem)
theorem rv_init {R : Result → Shared → Prop} {it l S : Addr} {items : Array Value} (hh : A.handled = none) (hit : s.heap.IsRevIter it l ((items.size : Int) - 1)) (hl : s.heap.IsList l items) (hne : l ≠ it) (hSi : S ≠ it) (hSl : S ≠ l) (hn : items.size ≤ sizeLine)
    (hS : s.heap.get? S = some { cls := .type "list", data := .seq #[] })
    (hR : ∀ h' tk acc' c', (∀ b o, b ≠ S → b ≠ it → s.heap.get? b = some o → h'.get? b = some o) → h'.get? S = some { cls := .type "list", dict := none, data := .seq acc' c', slots := #[] } → ItemsOf (fun i v => items[items.size - 1 - i]? = some v) acc' items.size → R (.ok (.ret .none)) { s with heap := h', toks := tk }) :
    wpAny (model prog w) A.in1 (Builtin.«list.__init__» ⟨[.ref S, .ref it], []⟩)
      (fun fin s' => match fin with | .done f => R (.ok f) s' | .again c' => c'.quiet = true ∧ codeAny (model prog w) A c' R s') (fun e s' => R (.error e) s') s := by
  show wpAny _ _ (do let old ← Builtin.List.listItems (.ref S); Builtin.List.listUpdate (.ref S) (fun _ => #[]); letGo old.toList.reverse; Builtin.List.listExtendWith (.ref S) (.ref it) .none) _ _ s
  refine wpAny_bind ?_
  unfold Builtin.List.listItems
  refine wpAny_bind (wpAny_seqItems hS rfl (wpAny_pure ?_))
  show wpAny _ _ (updateSeq S (fun _ => #[]) >>= fun _ => letGo (#[] : Array Value).toList.reverse >>= fun _ => Builtin.List.listExtendWith (.ref S) (.ref it) .none) _ _ s
  refine wpAny_bind (wpAny_updateSeq hS rfl ?_)
  have hS₂ := Heap.get?_update_self (Obj.mapSeq (fun _ => (#[] : Array Value))) hS rfl
  have oth : ∀ b o, b ≠ S → s.heap.get? b = some o → (s.heap.update S (Obj.mapSeq (fun _ => (#[] : Array Value)))).get? b = some o :=
    fun b o hb e => (Heap.get?_update_other _ _ (Ne.symm hb)).trans e
  refine wpAny_bind (wpAny_letGo ?_)
  refine rv_fill hh (hit.at fun o e => oth it o hSi.symm e) (hl.at fun o e => oth l o hSl.symm e) hne hSi hSl hn hS₂ fun h' tk acc' c' hk hS' hacc => ?_
  exact hR h' tk acc' c' (fun b o hb hb2 e => hk b o hb hb2 (oth b o hb e)) hS' hacc
theorem rv_call {Q : Value → Shared → Prop} {it l : Addr} {items : Array Value} (hh : A.handled = none) (hit : s.heap.IsRevIter it l ((items.size : Int) - 1)) (hl : s.heap.IsList l items) (hne : l ≠ it) (hn : items.size ≤ sizeLine)
    (hQ : ∀ h' tk acc' c', (∀ b o, b ≠ it → s.heap.get? b = some o → h'.get? b = some o) → h'.get? s.heap.objs.size = some { cls := .type "list", dict := none, data := .seq acc' c', slots := #[] } → ItemsOf (fun i v => items[items.size - 1 - i]? = some v) acc' items.size → Q (.ref s.heap.objs.size) { s with heap := h', toks := tk }) :
    wpAny (model prog w) A (call (.type "list") [.ref it]) Q E s := by
  refine callType_codes (Q₁ := fun obj s₁ => obj = .ref s.heap.objs.size ∧ s₁ = { s with heap := s.heap.push { cls := .type "list", data := .seq #[] } }) PySem.F.called_list (PySem.F.typeCall_list_1 _) PySem.F.entry_list_init
    (code_list_new _ ⟨rfl, rfl⟩) fun obj s₁ h₁ => ?_
  obtain ⟨rfl, rfl⟩ := h₁
  have hS : (s.heap.push { cls := .type "list", data := .seq #[] }).get? s.heap.objs.size = some { cls := .type "list", data := .seq #[] } := Heap.get?_push_size _ rfl
  obtain ⟨oi, hoi, _⟩ := id hit
  obtain ⟨ol, hol, _⟩ := id hl
  refine ⟨⟨_, hS, rfl⟩, PySem.F.args_list_init_2 _ _, rv_init (A := A.in1) hh (hit.at fun o e => Heap.get?_push_of_some _ e) (hl.push _) hne (Nat.ne_of_gt (Heap.lt_size hoi)) (Nat.ne_of_gt (Heap.lt_size hol)) hn hS fun h' tk acc' c' hk hS' hacc => ?_⟩
  exact ⟨rfl, hQ h' tk acc' c' (fun b o hb e => hk b o (Nat.ne_of_lt (Heap.lt_size e)) hb (Heap.get?_push_of_some _ e)) hS' hacc⟩
end
def tListRev (K : PySem.W.Frag) (te : TE) : TE := fun σ H Q => te σ H fun v H1 => ∃ (a : Addr) (xs : List V), v = .ref a ∧ SqL K H1 a xs ∧ ∀ q, H1 q = none → Q (.ref q) (upd H1 q (.lst xs.reverse))
section
variable {X : Cx}
theorem pe_listRev {e : Expr} {te : TE} {p p2 pos pos2 : Pos} (hc : X.calm = true) (hg : Gl X "list") (hm : X.mg "list" = none) (hg2 : Gl X "reversed") (hm2 : X.mg "reversed" = none) (he : PE X e te)
    (hs : starEach [e] X.env = (false, eval e X.env) :: starEach [] X.env := by rfl)
    (hs2 : starEach [.Call (.Name "reversed" p2) [e] [] pos2] X.env = (false, eval (.Call (.Name "reversed" p2) [e] [] pos2) X.env) :: starEach [] X.env := by rfl) :
    PE X (.Call (.Name "list" p) [.Call (.Name "reversed" p2) [e] [] pos2] [] pos) (tListRev X.K te) := by
  refine ⟨fun pins s σ H Q I h => ?_⟩
  refine Call_ (ld_blt I hg hm boot_list (PyProof.Rows.callWith_type1 (args_cons (Call_ (ld_blt I hg2 hm2 PyProof.Rows.boot_reversed (PyProof.Rows.callWith_type1 (args_cons (thn (he.run pins s σ H _ I h) fun u s1 ⟨v, H1, I1, r1, q1⟩ => args_nil ?_) hs) hs rfl))) hs2) hs2 rfl))
  obtain ⟨a, xs, ev, hq, q⟩ := q1
  subst ev
  obtain rfl : u = Value.ref a := r1
  obtain ⟨its, rv, p', hz⟩ := I1.list hq
  refine call_reversed_list p'.isList (args_nil ?_)
  have k0 : ∀ b o, s1.heap.get? b = some o → (s1.heap.push (revObj a ((its.toArray.size : Int) - 1))).get? b = some o := fun b o e => Heap.get?_push_of_some _ e
  have I2 : Inv X pins σ H1 { s1 with heap := s1.heap.push (revObj a ((its.toArray.size : Int) - 1)) } := I1.kept (t' := s1.toks) k0
  have hl := p'.isList
  obtain ⟨ol, hol, _⟩ := id hl
  have hne : a ≠ s1.heap.objs.size := Nat.ne_of_lt (Heap.lt_size hol)
  have hn : its.toArray.size ≤ sizeLine := by rw [List.size_toArray, ← rv.length]; exact hz
  refine rv_call (s := { s1 with heap := s1.heap.push (revObj a ((its.toArray.size : Int) - 1)) }) (I1.ok.hd hc) ⟨_, Heap.get?_push_size _ rfl, rfl, rfl⟩ (hl.push _) hne hn fun h' tk acc c' hk e' hi => ?_
  have hle : s1.heap.objs.size ≤ (s1.heap.push (revObj a ((its.toArray.size : Int) - 1))).objs.size := by
    show s1.heap.objs.size ≤ (s1.heap.objs.push _).size
    rw [Array.size_push]; exact Nat.le_succ _
  refine ⟨.ref _, upd H1 _ (.lst xs.reverse), I1.laid (t' := tk) (fun b o e => hk b o (Nat.ne_of_lt (Heap.lt_size e)) (k0 b o e)) hle (show ObjOk X.prog X.w _ _ _ (.lst xs.reverse) from ⟨by rw [List.length_reverse]; exact hz, acc.toList, c', RT.vals_rev rv hi, ?_⟩), rfl, q _ (I1.hok.fresh hle)⟩
  rw [Array.toArray_toList]
  exact e'
end
/-- by value, and as a list that may change -/
def fRev : W → Hd → R W := fun w h => match lstOf h w with
  | some xs => .ok (.fl xs.reverse) h
  | none => .bad
def mLRev (m : Sg → Hd → R W) : Sg → Hd → R W := fun σ h => (m σ h).bind fRev
def fRevN : W → Hd → R W := fun w h => match lstOf h w with
  | some xs => .ok (.ref h.length) (h ++ [.lst xs.reverse])
  | none => .bad
def mLRevN (m : Sg → Hd → R W) : Sg → Hd → R W := fun σ h => (m σ h).bind fRevN
theorem Rels.reverse {K : PySem.W.Frag} {tb : Addr → Prop} {H : Hp} {g : G} {ws : List W} {vs : List V} (h : Rels K tb H g ws vs) : Rels K tb H g ws.reverse vs.reverse := by
  induction h with
  | nil => exact .nil
  | non _ ih => rw [List.reverse_cons, List.reverse_cons]; exact ih.append (.non .nil)
  | bl _ ih => rw [List.reverse_cons, List.reverse_cons]; exact ih.append (.bl .nil)
  | int _ ih => rw [List.reverse_cons, List.reverse_cons]; exact ih.append (.int .nil)
  | str _ ih => rw [List.reverse_cons, List.reverse_cons]; exact ih.append (.str .nil)
  | tup s t _ _ ih => rw [List.reverse_cons, List.reverse_cons]; exact ih.append (.tup s t .nil)
  | fl s t _ _ ih => rw [List.reverse_cons, List.reverse_cons]; exact ih.append (.fl s t .nil)
  | scr s t _ _ ih => rw [List.reverse_cons, List.reverse_cons]; exact ih.append (.scr s t .nil)
  | fd s f d t _ _ ih => rw [List.reverse_cons, List.reverse_cons]; exact ih.append (.fd s f d t .nil)
  | ref e _ ih => rw [List.reverse_cons, List.reverse_cons]; exact ih.append (.ref e .nil)
  | obj _ ih => rw [List.reverse_cons, List.reverse_cons]; exact ih.append (.obj .nil)
section
variable {X : Cx} {Wx : WX} {e : Expr} {me : Sg → Hd → R W} {p p2 pos pos2 : Pos}
theorem s_listRevN (hc : X.calm = true) (hg : Gl X "list") (hm : X.mg "list" = none) (hg2 : Gl X "reversed") (hm2 : X.mg "reversed" = none) (he : SE X Wx e me)
    (hs : starEach [e] X.env = (false, eval e X.env) :: starEach [] X.env := by rfl)
    (hs2 : starEach [.Call (.Name "reversed" p2) [e] [] pos2] X.env = (false, eval (.Call (.Name "reversed" p2) [e] [] pos2) X.env) :: starEach [] X.env := by rfl) :
    SE X Wx (.Call (.Name "list" p) [.Call (.Name "reversed" p2) [e] [] pos2] [] pos) (mLRevN me) := by
  refine ⟨fun pins s σ H Q I ⟨σd, hd, g, k, sr, hx, q⟩ => (pe_listRev hc hg hm hg2 hm2 he hs hs2).run pins s σ H Q I ?_⟩
  unfold mLRevN at hx q
  refine ⟨σd, hd, g, k, sr, hx.bind1, fun w h1 e1 v H1 g1 x1 k1 r1 => ?_⟩
  have hx1 := XOk.bind2 hx e1 x1
  rw [e1] at q
  unfold fRevN at hx1 q
  cases e2 : lstOf h1 w with
  | none => rw [e2] at hx1; exact hx1.elim
  | some xs =>
    obtain ⟨a, us, rfl, hs', t⟩ := lst_of k1 r1 e2
    refine ⟨a, us, rfl, hs', fun l hl => ?_⟩
    have xx := Ext.newR (o := .lst us.reverse) k1 hl
    refine q (.ref h1.length) _ (by show (match lstOf h1 w with | some xs => _ | none => _) = _; rw [e2]) _ _ (g1.app l) (x1.trans xx) (Hr.newR (ob := .lst xs.reverse) k1 hl ⟨us.reverse, upd_same, xx.rels t.reverse⟩) ?_
    refine .ref ?_ .nil
    show (g1.ρ ++ [l])[h1.length]? = some l
    rw [← k1.len, List.getElem?_append_right (Nat.le_refl _), Nat.sub_self] <;> rfl
theorem s_listRev (hc : X.calm = true) (hg : Gl X "list") (hm : X.mg "list" = none) (hg2 : Gl X "reversed") (hm2 : X.mg "reversed" = none) (he : SE X Wx e me)
    (hs : starEach [e] X.env = (false, eval e X.env) :: starEach [] X.env := by rfl)
    (hs2 : starEach [.Call (.Name "reversed" p2) [e] [] pos2] X.env = (false, eval (.Call (.Name "reversed" p2) [e] [] pos2) X.env) :: starEach [] X.env := by rfl) :
    SE X Wx (.Call (.Name "list" p) [.Call (.Name "reversed" p2) [e] [] pos2] [] pos) (mLRev me) := by
  refine ⟨fun pins s σ H Q I ⟨σd, hd, g, k, sr, hx, q⟩ => (pe_listRev hc hg hm hg2 hm2 he hs hs2).run pins s σ H Q I ?_⟩
  unfold mLRev at hx q
  refine ⟨σd, hd, g, k, sr, hx.bind1, fun w h1 e1 v H1 g1 x1 k1 r1 => ?_⟩
  have hx1 := XOk.bind2 hx e1 x1
  rw [e1] at q
  unfold fRev at hx1 q
  cases e2 : lstOf h1 w with
  | none => rw [e2] at hx1; exact hx1.elim
  | some xs =>
    obtain ⟨a, us, rfl, hs', t⟩ := lst_of k1 r1 e2
    refine ⟨a, us, rfl, hs', fun l hl => ?_⟩
    have xx := Ext.newF (o := .lst us.reverse) k1 hl
    exact q (.fl xs.reverse) h1 (by show (match lstOf h1 w with | some xs => _ | none => _) = _; rw [e2]) _ _ (g1.frz l) (x1.trans xx) (Hr.newF k1 hl) (.fl ⟨upd_same, .inr rfl⟩ (xx.rels t.reverse) .nil)
/-! ## list(range(..)), tuple(range(..)) -/
def rgW (a b : Int) : List W := (List.range (b - a).toNat).map fun (k : Nat) => W.int (a + k)
def rgOk (a b : Int) : Bool := decide (-(2 ^ 62) ≤ a) && decide (a < 2 ^ 62) && decide (-(2 ^ 62) ≤ b) && decide (b < 2 ^ 62) && decide ((b - a).toNat ≤ 16777216)
theorem rgOk_of {a b : Int} (h : rgOk a b = true) : RgOk a b := by
  unfold rgOk at h
  simp only [Bool.and_eq_true, decide_eq_true_eq] at h
  obtain ⟨⟨⟨⟨h1, h2⟩, h3⟩, h4⟩, h5⟩ := h
  exact ⟨h1, h2, h3, h4, h5⟩
theorem rels_rg {K : PySem.W.Frag} {tb : Addr → Prop} {H : Hp} {g : G} (a b : Int) : Rels K tb H g (rgW a b) (rgV a b) := by
  have e1 : rgW a b = ((List.range (b - a).toNat).map fun (k : Nat) => a + (k : Int)).map W.int := by unfold rgW; rw [List.map_map] <;> rfl
  have e2 : rgV a b = ((List.range (b - a).toNat).map fun (k : Nat) => a + (k : Int)).map V.int := by unfold rgV; rw [List.map_map] <;> rfl
  rw [e1, e2]
  exact rels_ints _
/-- the bounds of a range -/
def tRgW (X : Cx) (Wx : WX) (m : Sg → Hd → R (Int × Int)) : L2.St → Hp → (Int → Int → Hp → Prop) → Prop := fun σ H Q => ∃ σd hd g, Hr X.K X.tb H g hd ∧ Sr X.K X.tb H g σd σ ∧ XOk X Wx σ H g (m σd hd) ∧
  ∀ a b hd', m σd hd = .ok (a, b) hd' → ∀ H' g', Ext H g H' g' → Hr X.K X.tb H' g' hd' → Q a b H'
abbrev SRg (X : Cx) (Wx : WX) (e : Expr) (m : Sg → Hd → R (Int × Int)) : Prop := PRg X e (tRgW X Wx m)
def as1 : List W → Hd → R (Int × Int) := fun ws h => match ws with
  | [.int j] => .ok (0, j) h
  | [.int i, .int j] => .ok (i, j) h
  | _ => .bad
def mRg1 (ma : Sg → Hd → R W) : Sg → Hd → R (Int × Int) := fun σ h => (ma σ h).bind fun x h1 => match x with
  | .int j => .ok (0, j) h1
  | _ => .bad
def mRg2 (ma mb : Sg → Hd → R W) : Sg → Hd → R (Int × Int) := fun σ h => (ma σ h).bind fun x h1 => (mb σ h1).bind fun y h2 => match x, y with
  | .int i, .int j => .ok (i, j) h2
  | _, _ => .bad
variable {a b : Expr} {ma mb : Sg → Hd → R W}
theorem rg_1 (hg : Gl X "range") (hm : X.mg "range" = none) (ha : SE X Wx a ma) (na : starEach [a] X.env = (false, eval a X.env) :: starEach [] X.env := by rfl) : SRg X Wx (.Call (.Name "range" p) [a] [] pos) (mRg1 ma) := by
  refine fun pins s σ H Q I ⟨σd, hd, g, k, sr, hx, q⟩ => prg_1 hg hm ha na pins s σ H Q I ?_
  unfold mRg1 at hx q
  refine ⟨σd, hd, g, k, sr, hx.bind1, fun w h1 e1 v H1 g1 x1 k1 r1 => ?_⟩
  have hx1 := XOk.bind2 hx e1 x1
  rw [e1] at q
  cases w <;> first
    | exact hx1.elim
    | skip
  cases r1
  exact ⟨_, rfl, q _ _ _ rfl H1 g1 x1 k1⟩
theorem rg_2 (hg : Gl X "range") (hm : X.mg "range" = none) (ha : SE X Wx a ma) (hb : SE X Wx b mb) (na : starEach [a, b] X.env = (false, eval a X.env) :: starEach [b] X.env := by rfl)
    (nb : starEach [b] X.env = (false, eval b X.env) :: starEach [] X.env := by rfl) (hp : (backTo pos (starEach [b] X.env)).any (·.1) = false := by rfl) : SRg X Wx (.Call (.Name "range" p) [a, b] [] pos) (mRg2 ma mb) := by
  refine fun pins s σ H Q I ⟨σd, hd, g, k, sr, hx, q⟩ => prg_2 hg hm ha hb na nb hp pins s σ H Q I ?_
  unfold mRg2 at hx q
  refine ⟨σd, hd, g, k, sr, hx.bind1, fun w h1 e1 v H1 g1 x1 k1 r1 => ?_⟩
  have hx1 := XOk.bind2 hx e1 x1
  rw [e1] at q
  refine ⟨σd, h1, g1, k1, sr.ext x1, hx1.bind1, fun w2 h2 e2 v2 H2 g2 x2 k2 r2 => ?_⟩
  have hx2 := XOk.bind2 hx1 e2 x2
  replace q : ∀ a b hd', (match w, w2 with | .int i, .int j => R.ok (i, j) h2 | _, _ => .bad) = .ok (a, b) hd' → _ := fun a b hd' e => q a b hd' (by
    show ((mb σd h1).bind _) = _
    rw [e2]
    exact e)
  cases w <;> first
    | exact hx2.elim
    | skip
  cases w2 <;> first
    | exact hx2.elim
    | skip
  cases r1
  cases r2
  exact ⟨_, _, rfl, rfl, q _ _ _ rfl H2 g2 (x1.trans x2) k2⟩
def mLRg (m : Sg → Hd → R (Int × Int)) : Sg → Hd → R W := fun σ h => (m σ h).bind fun ab h1 => if rgOk ab.1 ab.2 = true then .ok (.fl (rgW ab.1 ab.2)) h1 else .bad
def mLRgN (m : Sg → Hd → R (Int × Int)) : Sg → Hd → R W := fun σ h => (m σ h).bind fun ab h1 => if rgOk ab.1 ab.2 = true then .ok (.ref h1.length) (h1 ++ [.lst (rgW ab.1 ab.2)]) else .bad
def mTRg (m : Sg → Hd → R (Int × Int)) : Sg → Hd → R W := fun σ h => (m σ h).bind fun ab h1 => if rgOk ab.1 ab.2 = true then .ok (.tup (rgW ab.1 ab.2)) h1 else .bad
variable {mr : Sg → Hd → R (Int × Int)}
theorem rg_use {f : Int × Int → Hd → R W} {σ : L2.St} {H : Hp} {Q : VK} {σd : Sg} {hd : Hd} {g : G} {T : Int → Int → Hp → Prop} (k : Hr X.K X.tb H g hd) (sr : Sr X.K X.tb H g σd σ) (hx : XOk X Wx σ H g ((mr σd hd).bind fun ab h1 => if rgOk ab.1 ab.2 = true then f ab h1 else .bad))
    (q : OkQ X H g ((mr σd hd).bind fun ab h1 => if rgOk ab.1 ab.2 = true then f ab h1 else .bad) Q)
    (hT : ∀ a b h1 H1 g1, Hr X.K X.tb H1 g1 h1 → RgOk a b → OkQ X H1 g1 (f (a, b) h1) Q → T a b H1) : tRgW X Wx mr σ H T := by
  refine ⟨σd, hd, g, k, sr, hx.bind1, fun a b h1 e1 H1 g1 x1 k1 => ?_⟩
  have hx1 := XOk.bind2 hx e1 x1
  rw [e1] at q
  by_cases c : rgOk a b = true
  · refine hT a b h1 H1 g1 k1 (rgOk_of c) fun w hd' e v H' g' x => q w hd' (by show (if rgOk a b = true then f (a, b) h1 else .bad) = _; rw [if_pos c]; exact e) v H' g' (x1.trans x)
  · dsimp only at hx1
    rw [if_neg c] at hx1
    exact hx1.elim
theorem s_listRg (hc : X.calm = true) (hg : Gl X "list") (hm : X.mg "list" = none) (he : SRg X Wx e mr) (na : starEach [e] X.env = (false, eval e X.env) :: starEach [] X.env := by rfl) : SE X Wx (.Call (.Name "list" p) [e] [] pos) (mLRg mr) := by
  refine ⟨fun pins s σ H Q I ⟨σd, hd, g, k, sr, hx, q⟩ => (pe_listRg hc hg hm he na).run pins s σ H Q I ?_⟩
  refine rg_use k sr hx q fun a b h1 H1 g1 k1 ok q1 => ⟨ok, fun l hl => ?_⟩
  have xx := Ext.newF (o := .lst (rgV a b)) k1 hl
  exact q1 _ _ rfl _ _ (g1.frz l) xx (Hr.newF k1 hl) (.fl ⟨upd_same, .inr rfl⟩ (rels_rg a b) .nil)
theorem s_listRgN (hc : X.calm = true) (hg : Gl X "list") (hm : X.mg "list" = none) (he : SRg X Wx e mr) (na : starEach [e] X.env = (false, eval e X.env) :: starEach [] X.env := by rfl) : SE X Wx (.Call (.Name "list" p) [e] [] pos) (mLRgN mr) := by
  refine ⟨fun pins s σ H Q I ⟨σd, hd, g, k, sr, hx, q⟩ => (pe_listRg hc hg hm he na).run pins s σ H Q I ?_⟩
  refine rg_use k sr hx q fun a b h1 H1 g1 k1 ok q1 => ⟨ok, fun l hl => ?_⟩
  have xx := Ext.newR (o := .lst (rgV a b)) k1 hl
  refine q1 _ _ rfl _ _ (g1.app l) xx (Hr.newR (ob := .lst (rgW a b)) k1 hl ⟨rgV a b, upd_same, rels_rg a b⟩) (.ref ?_ .nil)
  show (g1.ρ ++ [l])[h1.length]? = some l
  rw [← k1.len, List.getElem?_append_right (Nat.le_refl _), Nat.sub_self] <;> rfl
theorem s_tupRg (hc : X.calm = true) (hg : Gl X "tuple") (hm : X.mg "tuple" = none) (he : SRg X Wx e mr) (na : starEach [e] X.env = (false, eval e X.env) :: starEach [] X.env := by rfl) : SE X Wx (.Call (.Name "tuple" p) [e] [] pos) (mTRg mr) := by
  refine ⟨fun pins s σ H Q I ⟨σd, hd, g, k, sr, hx, q⟩ => (pe_tupRg hc hg hm he na).run pins s σ H Q I ?_⟩
  refine rg_use k sr hx q fun a b h1 H1 g1 k1 ok q1 => ⟨ok, fun l hl => ?_⟩
  have xx := Ext.new (o := .tup (rgV a b)) k1 hl
  exact q1 _ _ rfl _ _ g1 xx (Hr.new k1 hl) (.tup (.inl (.inl upd_same)) (rels_rg a b) .nil)
end
end EV

set_option Elab.async false
set_option linter.all false
set_option maxRecDepth 100000
set_option maxHeartbeats 4000000
namespace EV
open PySem PySem.Spec L2

/-! ## what the writing program leans on -/
def visC (sc : Scope) (x : Str) : Bool := match sc.names.lookup x with
  | some .local => true
  | some .cell => true
  | some .free => true
  | _ => false
theorem vis_of {sc : Scope} {x : Str} (h : visC sc x = true) : Vis sc x := by
  unfold visC at h
  split at h
  · exact .inl ‹_›
  · exact .inr (.inl ‹_›)
  · exact .inr (.inr ‹_›)
  · cases h
def locC (sc : Scope) (x : Str) : Bool := match sc.names.lookup x with
  | some .local => true
  | some .cell => true
  | _ => false
theorem loc_of {sc : Scope} {x : Str} (h : locC sc x = true) : Loc sc x := by
  unfold locC at h
  split at h
  · exact .inl ‹_›
  · exact .inr ‹_›
  · cases h
theorem tk0 {X : Cx} : L2N.Takes X WF := fun _ _ x => by
  obtain ⟨_, _, _, _, _, _, _, _, _, _, _, _, _, _, _, _, z⟩ := x
  exact z.elim
section
variable {X : Cx} {Wx : WX} {pos : Pos}
theorem s_glI' {x : Str} {i : Int} (hg : Gl X x) (hm : ∃ t, X.mg x = some (.int i t)) (hd : (x == ("__debug__" : Str)) = false := by decide) : SE X Wx (.Name x pos) (mC (.int i)) := let ⟨_, h⟩ := hm; s_glI hg h hd
theorem s_glS' {x : Str} {i : Str} (hg : Gl X x) (hm : ∃ t, X.mg x = some (.str i t)) (hd : (x == ("__debug__" : Str)) = false := by decide) : SE X Wx (.Name x pos) (mC (.str i)) := let ⟨_, h⟩ := hm; s_glS hg h hd
end
/-- x names an exception class below ValueError -/
structure ExcT (K : PySem.W.Frag) (mg : Str → Option Value) (x : Str) : Prop where
  ex : ∃ C, mg x = some (.ref C) ∧ PySem.W.excIn K C He.veBase "ValueError.__new__" = true ∧ PySem.W.keepIn K (.ref C) = true ∧ PySem.W.subIn K (.ref C) (.type "BaseException") = some true ∧ PySem.W.typeIn K (.ref C) = some (.type "type")
section
variable {X : Cx} {Wx : WX}
theorem s_raiseT {x m : Str} {j : Nat} {p p2 p3 pos : Pos} (hc : X.calm = true) (tk : L2N.Takes X Wx) (E : ExcT X.K X.mg x) (hg : Gl X x) (hdb : (x == ("__debug__" : Str)) = false := by decide) :
    SS X Wx (.Raise (some (.Call (.Name x p) [.Constant (.str m) j p2] [] p3)) none pos) (mRaise x) := by
  obtain ⟨C, h1, h2, h3, h4, h5⟩ := E.ex
  exact s_raise hc tk PySem.F.excBase_ValueError h2 h1 h3 (raises_own h4 h5) hg hdb
end
/-- a def whose code object stands at c -/
structure FunC (K : PySem.W.Frag) (x : Str) (st : Stmt) (f : Addr) (fd : FuncData) (c : Addr) : Prop where
  ex : ∃ (oc : Value) (od : Option Addr) (kV doc pm : Value) (an : Option Addr) (ct : Value) (osl : Array (Option Value)),
    fd = PySem.W.fnOf x x (defArgs st) (defBody st) (defScope st) .none kV doc pm an (.ref c) ct ∧ K.lookup f = some ⟨oc, od, .func fd, osl⟩ ∧ PySem.W.codeIn K (.ref c) x = true
  kp : PySem.W.keepIn K (.ref f) = true
theorem FunC.of {K : PySem.W.Frag} {x : Str} {st : Stmt} {p : Str × Option Str} {fd : FuncData} (F : Fun K x x st (He.fAd K p) fd) : FunC K x st (He.fAd K p) fd (He.codeOf K p) := by
  obtain ⟨oc, od, kV, doc, pm, an, cdv, ct, osl, rfl, lk, hcd⟩ := F.ex
  obtain ⟨c, rfl⟩ := He.codeIn_ref hcd
  have e : He.codeOf K p = c := He.codeOf_eq lk rfl
  rw [e]
  exact ⟨⟨oc, od, kV, doc, pm, an, ct, osl, rfl, lk, hcd⟩, F.kp⟩
section
variable {P : Program} {w : World} {K : PySem.W.Frag} {mg : Str → Option Value} {base : Heap}
theorem def_mkC {x : Str} {st : Stmt} {f c : Addr} {fd : FuncData} {N ps : List Str} {k : Nat} {m : Sg → Hd → RS} (F : FunC K x st f fd c) (hm : mg x = some (.ref f)) (b : Binds K fd ps []) (S : FnScope N ps (defScope st))
    (hbody : ∀ (A : Around) (outer : List Env) (s : Shared) (H : Hp) (E : XK), Room k (A.deeper (PyProof.Rows.envOfC x (defScope st) s.heap.objs.size f (.ref c))) →
      SSs (cxOf (L2N.CX P w) P w K mg base N x (defScope st) f (.ref c) A outer s H E) (fun cls d _ H => E cls d H) (defBody st) m) : DefV P w K mg base (k + 1) x ps.length (fnB ps.length N.length m) := by
  obtain ⟨oc, od, kV, doc, pm, an, ct, osl, rfl, lk, hcd⟩ := F.ex
  have hk := F.kp
  refine ⟨⟨f, _, ps, fn_of lk hcd S (fun vs H Q E h => h.1) fun A outer s H vs Q E hr ⟨hl, ws, hd, g, k1, r1, q⟩ => ⟨_, hbody A outer s H E hr, startW N.length ws, hd, g, k1, start_sr r1, ?_⟩, hm, hk, b⟩, fun ws h hne => by unfold fnB; rw [if_neg hne]⟩
  have hl2 : ws.length = ps.length := r1.length.trans hl
  unfold fnB at q
  rw [if_pos hl2] at q
  cases e : m (startW N.length ws) hd with
  | nx σ1 h1 => rw [e] at q; exact fun σ' H' g' x k s => q _ H' g' x k (.non .nil)
  | rt w h1 => rw [e] at q; exact fun v H' g' x k r => q v H' g' x k r
  | exc c σ1 h1 => rw [e] at q; exact fun σ' H' g' x k s => q H' g' x k
  | _ => rw [e] at q; exact q.elim
theorem law_fn {x : Str} {st : Stmt} {f : Addr} {fd : FuncData} {N ps : List Str} {k : Nat} {m : Sg → Hd → RS} (F : Fun K x x st f fd) (S : FnScope N ps (defScope st))
    (hbody : ∀ (cdv : Value) (A : Around) (outer : List Env) (s : Shared) (H : Hp) (E : XK), Room k (A.deeper (PyProof.Rows.envOfC x (defScope st) s.heap.objs.size f cdv)) →
      SSs (cxOf (L2N.CX P w) P w K mg base N x (defScope st) f cdv A outer s H E) (fun cls d _ H => E cls d H) (defBody st) m) :
    FnOk P w K mg base (L2N.CX P w) (k + 1) f fd ps (spV ps.length K mg (tbOf K base mg) (fnB ps.length N.length m)) := by
  obtain ⟨oc, od, kV, doc, pm, an, cdv, ct, osl, rfl, lk, hcd⟩ := F.ex
  refine fn_of lk hcd S (fun vs H Q E h => h.1) fun A outer s H vs Q E hr ⟨hl, ws, hd, g, k1, r1, q⟩ => ⟨_, hbody cdv A outer s H E hr, startW N.length ws, hd, g, k1, start_sr r1, ?_⟩
  have hl2 : ws.length = ps.length := r1.length.trans hl
  unfold fnB at q
  rw [if_pos hl2] at q
  cases e : m (startW N.length ws) hd with
  | nx σ1 h1 => rw [e] at q; exact fun σ' H' g' x k s => q _ H' g' x k (.non .nil)
  | rt w h1 => rw [e] at q; exact fun v H' g' x k r => q v H' g' x k r
  | exc c σ1 h1 => rw [e] at q; exact fun σ' H' g' x k s => q H' g' x k
  | _ => rw [e] at q; exact q.elim
theorem law_fnC {x : Str} {st : Stmt} {f c : Addr} {fd : FuncData} {N ps : List Str} {k : Nat} {m : Sg → Hd → RS} (F : FunC K x st f fd c) (S : FnScope N ps (defScope st))
    (hbody : ∀ (A : Around) (outer : List Env) (s : Shared) (H : Hp) (E : XK), Room k (A.deeper (PyProof.Rows.envOfC x (defScope st) s.heap.objs.size f (.ref c))) →
      SSs (cxOf (L2N.CX P w) P w K mg base N x (defScope st) f (.ref c) A outer s H E) (fun cls d _ H => E cls d H) (defBody st) m) :
    FnOk P w K mg base (L2N.CX P w) (k + 1) f fd ps (spV ps.length K mg (tbOf K base mg) (fnB ps.length N.length m)) := by
  obtain ⟨oc, od, kV, doc, pm, an, ct, osl, rfl, lk, hcd⟩ := F.ex
  refine fn_of lk hcd S (fun vs H Q E h => h.1) fun A outer s H vs Q E hr ⟨hl, ws, hd, g, k1, r1, q⟩ => ⟨_, hbody A outer s H E hr, startW N.length ws, hd, g, k1, start_sr r1, ?_⟩
  have hl2 : ws.length = ps.length := r1.length.trans hl
  unfold fnB at q
  rw [if_pos hl2] at q
  cases e : m (startW N.length ws) hd with
  | nx σ1 h1 => rw [e] at q; exact fun σ' H' g' x k s => q _ H' g' x k (.non .nil)
  | rt w h1 => rw [e] at q; exact fun v H' g' x k r => q v H' g' x k r
  | exc c σ1 h1 => rw [e] at q; exact fun σ' H' g' x k s => q H' g' x k
  | _ => rw [e] at q; exact q.elim
theorem triples0 : TriplesOk (#[] : Array Value).toList := by first | trivial | exact .nil | simp [TriplesOk]
/-- what the law's row asks -/
def lawSp (K : PySem.W.Frag) (cs : List (Addr × Addr)) : Sp := fun vs H Q _ => ∃ (a : Addr) (ns : List Int), vs = [.ref a] ∧ ns.length ≤ 63 ∧ (∀ z ∈ ns, Builtin.Int.intBits z ≤ 1048576) ∧ (∀ p ∈ cs, H p.2 = some (.tbl #[])) ∧ SqL K H a (ns.map V.int) ∧ ∀ H', Q (.bl true) H'
theorem law_sp {cs : List (Addr × Addr)} {F : Fn} (hT : ∀ b, tbOf K base mg b → ∃ p ∈ cs, p.2 = b) (hF : ∀ ns : List Int, ns.length ≤ 63 → (∀ z ∈ ns, Builtin.Int.intBits z ≤ 1048576) → ∃ h', F [.scr (ns.map W.int)] [] = .ok (.bl true) h')
    (vs : List V) (H : Hp) (Q : VK) (E : XK) (h : lawSp K cs vs H Q E) : spV 1 K mg (tbOf K base mg) F vs H Q E := by
  obtain ⟨a, ns, rfl, hl, hb, ht, hs, q⟩ := h
  obtain ⟨h', e⟩ := hF ns hl hb
  have tab : ∀ b, tbOf K base mg b → H b = some (.tbl #[]) := fun b hb => by
    obtain ⟨p, hp, rfl⟩ := hT b hb
    exact ht p hp
  have tg : ∀ b, tbOf K base mg b → TabG H b := fun b hb => ⟨#[], tab b hb, triples0⟩
  have fin : ∀ (g : G), g.P = (fun _ => False) → g.ρ = [] → (∀ b, g.F b → H b = some (.lst (ns.map V.int))) → ScAt K H g a (ns.map V.int) → spV 1 K mg (tbOf K base mg) F [.ref a] H Q E := fun g eP eρ eF sc => by
    refine ⟨rfl, [.scr (ns.map W.int)], [], g, ?_, .scr sc (rels_ints ns) .nil, ?_⟩
    · obtain ⟨gF, gP, gρ⟩ := g
      dsimp only at eP eρ eF
      subst eP eρ
      refine ⟨rfl, List.nodup_nil, (fun b hb => nomatch hb), (fun b _ z => z), (fun b hb => ?_), tg, (fun b hb => ⟨fun z => ?_, fun z => z⟩), (fun l b o z => by simp at z)⟩
      · rcases hb with z | z
        · rw [eF b z]; exact (fun z => nomatch z)
        · exact z.elim
      · have z1 := eF b z
        rw [tab b hb] at z1
        cases z1
    · rw [e]
      intro v H' g' x k r
      cases r
      exact q H'
  rcases hs with (hs | ⟨o, hs⟩) | hs
  · exact fin ⟨fun b => b = a, fun _ => False, []⟩ rfl rfl (fun b z => by rw [z]; exact hs) (.inl ⟨hs, rfl⟩)
  · exact fin ⟨fun _ => False, fun _ => False, []⟩ rfl rfl (fun b z => z.elim) (.inr (.inl ⟨o, hs⟩))
  · exact fin ⟨fun _ => False, fun _ => False, []⟩ rfl rfl (fun b z => z.elim) (.inr (.inr hs))
/-- all code objects of K belong to the defs tf -/
def codesB (tf : List He.Defn) (K : PySem.W.Frag) : Bool := K.all fun q => (match q.2.cls with
  | .type t => t != "code"
  | _ => true) || decide (q.1 ∈ tf.map (He.codeOf K))
theorem tabs_all {tf : List He.Defn} (X : K.In base) (h1 : codesB tf K = true) (h2 : ∀ p ∈ tf, PySem.W.codeHdIn K (He.cT K p).1 (He.cT K p).2 = true) (b : Addr) (h : tbOf K base mg b) : ∃ p ∈ tf.map (He.cT K), p.2 = b := by
  obtain ⟨c, T, kc⟩ := h
  obtain ⟨o, hk⟩ : ∃ o, K.lookup c = some o := by
    cases e : K.lookup c with
    | none => exact absurd e kc
    | some o => exact ⟨o, rfl⟩
  obtain ⟨o1, vs1, file1, tf1, fl1, tg1, in1, tx1, tt1, e1, c1, d1, p1, r1⟩ := T.code
  have eo : o1 = o := Option.some.inj (e1.symm.trans (X _ _ hk))
  subst eo
  have hm := He.lookup_mem hk
  have hq := List.all_eq_true.mp h1 _ hm
  rw [c1] at hq
  have hq2 : c ∈ tf.map (He.codeOf K) := by simpa using hq
  obtain ⟨p, hp, ep⟩ := List.mem_map.mp hq2
  refine ⟨He.cT K p, List.mem_map.mpr ⟨p, hp, rfl⟩, ?_⟩
  have C2 := PySem.W.codeHd_of_K X (h2 p hp)
  obtain ⟨o2, vs2, file2, tf2, fl2, tg2, in2, tx2, tt2, e2, c2, d2, p2, r2⟩ := C2
  have ec : (He.cT K p).1 = c := ep
  rw [ec, e1] at e2
  cases e2
  rw [d1] at d2
  cases d2
  rw [p1] at p2
  cases p2
  rfl
/-- from the head's facts -/
def dnone (K : PySem.W.Frag) (f : Addr) : Bool := match K.lookup f with
  | some ⟨_, _, .func fd, _⟩ => (match fd.defaults with
    | .none => true
    | _ => false)
  | _ => false
theorem fun_of {x : Str} {st : Stmt} {f : Addr} {fd : FuncData} (F : FunD K x x (defArgs st) (defBody st) (defScope st) [] [] f fd) (h : dnone K f = true) : Fun K x x st f fd := by
  obtain ⟨oc, od, dV, kV, doc, pm, an, cdv, ct, osl, rfl, lk, hcd, _, _⟩ := F.ex
  unfold dnone at h
  rw [lk] at h
  have e : dV = .none := by
    dsimp only [PySem.W.fnOf] at h
    cases dV <;> first
      | rfl
      | cases h
  subst e
  exact ⟨⟨oc, od, kV, doc, pm, an, cdv, ct, osl, rfl, lk, hcd⟩, F.kp⟩
end
/-- a loop may be left by errors of its own -/
theorem pown {P : Program} {w : World} {K : PySem.W.Frag} {mg : Str → Option Value} {base : Heap} {N : List Str} {x : Str} {sc : Scope} {f : Addr} {cdv : Value} {A : Around} {outer : List Env} {s : Shared} {H : Hp} {E : XK} :
    PassesOwn (model P w) (cxOf (L2N.CX P w) P w K mg base N x sc f cdv A outer s H E).A (cxOf (L2N.CX P w) P w K mg base N x sc f cdv A outer s H E).env (cxOf (L2N.CX P w) P w K mg base N x sc f cdv A outer s H E).xe := by
  exact PassesOwn.leaving
theorem tkX {P : Program} {w : World} {K : PySem.W.Frag} {mg : Str → Option Value} {base : Heap} {N : List Str} {x : Str} {sc : Scope} {f : Addr} {cdv : Value} {A : Around} {outer : List Env} {s : Shared} {H : Hp} {E : XK} :
    L2N.Takes (cxOf (L2N.CX P w) P w K mg base N x sc f cdv A outer s H E) (fun cls d _ H => E cls d H) := L2N.takes_of rfl rfl rfl rfl
theorem mIsE_at {b : Bool} {a : Nat} {σ : Sg} {h : Hd} (e : σ[0]? = some (some (.obj a))) : mIsE b a (mVar 0) σ h = .ok (.bl b) h := by
  unfold mIsE mVar
  rw [e]
  exact if_pos rfl
theorem kc_of {K : PySem.W.Frag} {x : Str} {st : Stmt} {f : Addr} {fd : FuncData} {c : Addr} (F : FunC K x st f fd c) : K.lookup c ≠ none := by
  obtain ⟨_, _, _, _, _, _, _, _, _, _, h⟩ := F.ex
  intro e
  unfold PySem.W.codeIn at h
  dsimp only at h
  rw [e] at h
  cases h
theorem all_at {α : Type} {l : List α} {p : α → Bool} (h : l.all p = true) (i : Nat) {x : α} (e : l[i]? = some x) : p x = true := List.all_eq_true.mp h x (List.mem_of_getElem? e)
theorem cx_none {P : Program} {w : World} {H : Hp} {s s' : Shared} {e : Value} (z : L2N.CX P w [] H s (fun _ _ _ => False) e s') : False := by
  obtain ⟨_, _, _, _, _, _, _, _, _, _, _, _, z⟩ := z
  exact z
/-- isinstance of an exception of this class: what it leans on -/
def excCB (K : PySem.W.Frag) (D : Addr) : Bool := He.eqO (PySem.W.findIn K (.ref D) "__getattribute__") (some (some (.builtin "BaseException.__getattribute__"))) && He.eqO (PySem.W.findIn K (.ref D) "__getattr__") (some none) && decide (PySem.W.subIn K (.ref D) (.type "BaseException") = some true) &&
  PySem.W.hasDictIn K D && He.eqO (PySem.W.findIn K (.ref D) "__class__") (some (some (.builtin "object.__class__"))) && He.eqO (PySem.W.specialIn K (.builtin "object.__class__") "__get__") (some (some (.builtin "getset_descriptor.__get__"))) &&
  decide (PySem.W.takesIn K (.builtin "object.__class__") = some true) && decide (PySem.W.mroIn K D (.type "object") = some true)
theorem excCB_ok {K : PySem.W.Frag} {D : Addr} (h : excCB K D = true) : ExcC K D := by
  unfold excCB at h
  simp only [Bool.and_eq_true] at h
  obtain ⟨⟨⟨⟨⟨⟨⟨h1, h2⟩, h3⟩, h4⟩, h5⟩, h6⟩, h7⟩, h8⟩ := h
  exact ⟨He.eqO_ok h1, He.eqO_ok h2, of_decide_eq_true h3, h4, He.eqO_ok h5, He.eqO_ok h6, of_decide_eq_true h7, of_decide_eq_true h8⟩
/-- the room that a body has, for the built-ins that want some -/
theorem ru64 {k : Nat} {A : Around} (h : Room k A) : A.units + 64 < cLine := by have := h.un; omega
theorem ru65 {k : Nat} {A : Around} (h : Room k A) : A.units + 65 < cLine := by have := h.un; omega
theorem ru80 {k : Nat} {A : Around} (h : Room k A) : A.units + 80 < cLine := by have := h.un; omega
theorem rv64 {k : Nat} {A : Around} (h : L2H.RoomH k A) : A.units + 64 < cLine := by have := h.un; omega
theorem rv65 {k : Nat} {A : Around} (h : L2H.RoomH k A) : A.units + 65 < cLine := by have := h.un; omega
theorem rv80 {k : Nat} {A : Around} (h : L2H.RoomH k A) : A.units + 80 < cLine := by have := h.un; omega
end EV

set_option Elab.async false
set_option linter.all false
set_option maxRecDepth 100000
set_option maxHeartbeats 4000000
namespace EV
open PySem PySem.Spec L2
def top (i : Nat) : Stmt := PySem.Challenge.pw_twinroads_k11_whole_known_webs.main.body.getD i (.Pass ⟨0, 0, 0, 0⟩)
theorem bt_ValueError : bootBuiltins "ValueError" = some (.type "ValueError") := by first | exact PyProof.Rows.boot_ValueError | kernel_rfl
theorem bt_abs : bootBuiltins "abs" = some (.builtin "abs") := by first | exact PyProof.Rows.boot_abs | kernel_rfl
theorem bt_all : bootBuiltins "all" = some (.builtin "all") := by first | exact PyProof.Rows.boot_all | kernel_rfl
theorem bt_bool : bootBuiltins "bool" = some (.type "bool") := by first | exact PyProof.Rows.boot_bool | kernel_rfl
theorem bt_int : bootBuiltins "int" = some (.type "int") := by first | exact PyProof.Rows.boot_int | kernel_rfl
theorem bt_isinstance : bootBuiltins "isinstance" = some (.builtin "isinstance") := by first | exact PyProof.Rows.boot_isinstance | kernel_rfl
theorem bt_len : bootBuiltins "len" = some (.builtin "len") := by first | exact PyProof.Rows.boot_len | kernel_rfl
theorem bt_list : bootBuiltins "list" = some (.type "list") := by first | exact PyProof.Rows.boot_list | kernel_rfl
theorem bt_range : bootBuiltins "range" = some (.type "range") := by first | exact PyProof.Rows.boot_range | kernel_rfl
theorem bt_reversed : bootBuiltins "reversed" = some (.type "reversed") := by first | exact PyProof.Rows.boot_reversed | kernel_rfl
theorem bt_sorted : bootBuiltins "sorted" = some (.builtin "sorted") := by first | exact PyProof.Rows.boot_sorted | kernel_rfl
theorem bt_str : bootBuiltins "str" = some (.type "str") := by first | exact PyProof.Rows.boot_str | kernel_rfl
theorem bt_tuple : bootBuiltins "tuple" = some (.type "tuple") := by first | exact PyProof.Rows.boot_tuple | kernel_rfl
structure Txt (K : PySem.W.Frag) (mg : Str → Option Value) : Prop where
  n_ValueError : mg "ValueError" = none
  n_abs : mg "abs" = none
  n_all : mg "all" = none
  n_bool : mg "bool" = none
  n_int : mg "int" = none
  n_isinstance : mg "isinstance" = none
  n_len : mg "len" = none
  n_list : mg "list" = none
  n_range : mg "range" = none
  n_reversed : mg "reversed" = none
  n_sorted : mg "sorted" = none
  n_str : mg "str" = none
  n_tuple : mg "tuple" = none
  c_MOST_POSTS_makers : ∃ t, mg "MOST_POSTS_makers" = some (.int 12 t)
  c_MOST_POSTS_webs : ∃ t, mg "MOST_POSTS_webs" = some (.int 12 t)
  c_MOST_THINGS : ∃ t, mg "MOST_THINGS" = some (.int 200 t)
  e_NotThere : ExcT K mg "NotThere"
  e_OutOfRange : ExcT K mg "OutOfRange"
section
variable {P : Program} {w : World} {K : PySem.W.Frag} {mg : Str → Option Value} {base : Heap}
/-! ### _law_draws -/
abbrev st__law_draws : Stmt := top 39
def N__law_draws : List Str := ["script", "draws", "cell", "number", "k", "first", "seed"]
theorem nd__law_draws : N__law_draws.Nodup := by decide +kernel
theorem sc__law_draws : FnScope N__law_draws ["script"] (defScope st__law_draws) := ⟨rfl, rfl, rfl, by decide +kernel, rfl, by decide +kernel, by decide +kernel⟩
def mb__law_draws_0 : Sg → Hd → RS := mIfS (mTest (mBin oGt (mVar 3) (mC (.int 0)))) (mSeq (mDrop (mMe "list" fAppend (mVar 1) (mCons (mBin oMod (mCall fInt (mCons (mVar 3) mNil)) (mC (.int 997))) mNil))) (mSet 3 (mBin oDiv (mVar 3) (mC (.int 997))))) mNext
def mb__law_draws_1 : Sg → Hd → RS := mSeq (mSet 3 (mCall fAbs (mCons (mVar 2) mNil))) (mSeq (mIfS (mTest (mBin oLt (mVar 3) (mBin oPow (mC (.int 10)) (mC (.int 18))))) (mSeq (mSet 5 (mBin oMod (mCall fInt (mCons (mBin oAdd (mBin oMul (mVar 3) (mC (.int 48271))) (mC (.int 11))) mNil)) (mC (.int 2147483647)))) (mSeq (mDrop (mMe "list" fAppend (mVar 1) (mCons (mBin oMod (mCall fInt (mCons (mBin oAdd (mBin oMul (mVar 5) (mC (.int 69621))) (mVar 3)) mNil)) (mC (.int 2147483629))) mNil))) (mSeq (mDrop (mMe "list" fAppend (mVar 1) (mCons (mBin oMod (mCall fInt (mCons (mBin oAdd (mVar 5) (mBin oDiv (mVar 3) (mC (.int 7)))) mNil)) (mC (.int 1000003))) mNil))) (mSet 3 (mC (.int 0)))))) mNext) (mFor (mRng1 (mCons (mC (.int 60)) mNil)) (gmN 4) (mb__law_draws_0)))
def mb__law_draws_2 : Sg → Hd → RS := mSeq (mSet 6 (mBin oMod (mCall fInt (mCons (mBin oAdd (mBin oMul (mVar 6) (mC (.int 48271))) (mC (.int 69621))) mNil)) (mC (.int 2147483647)))) (mDrop (mMe "list" fAppend (mVar 1) (mCons (mBin oDiv (mVar 6) (mC (.int 5))) mNil)))
def m__law_draws : Sg → Hd → RS := mSeq (mSet 1 (mNew mNil)) (mSeq (mFor (mIt (mVar 0)) (gmN 2) (mb__law_draws_1)) (mSeq (mSet 6 (mC (.int 1))) (mSeq (mIfS (mTest (mBin oGt (mCall fLen (mCons (mVar 0) mNil)) (mC (.int 0)))) (mSet 6 (mBin oAdd (mC (.int 1)) (mCall fAbs (mCons (mBin oIx (mVar 0) (mC (.int 0))) mNil)))) mNext) (mSeq (mFor (mRng1 (mCons (mC (.int 900)) mNil)) (gmN 4) (mb__law_draws_2)) (mRet (mLRevN (mVar 1)))))))
def F__law_draws : Fn := fnB 1 7 m__law_draws
theorem b__law_draws (T : Txt K mg) {f : Addr} {cdv : Value} {A : Around} {outer : List Env} {s : Shared} {H : Hp} {E : XK} (hr : Room 0 (A.deeper (PyProof.Rows.envOfC "_law_draws" (defScope st__law_draws) s.heap.objs.size f (cdv)))) :
    SSs (cxOf (L2N.CX P w) P w K mg base N__law_draws "_law_draws" (defScope st__law_draws) f (cdv) A outer s H E) (fun cls d _ H => E cls d H) (defBody st__law_draws) (m__law_draws) :=
  ss_cons (s_set (i := 1) nd__law_draws rfl (loc_of rfl) (s_new a_nil)) (ss_cons (s_for pown rfl (i_seq (s_var (i := 0) rfl (vis_of rfl))) (g_name (i := 2) nd__law_draws rfl (loc_of rfl)) (ss_cons (s_set (i := 3) nd__law_draws rfl (loc_of rfl) (s_callB fAbs_ok rfl T.n_abs bt_abs (a_cons (s_var (i := 2) rfl (vis_of rfl)) a_nil))) (ss_cons (s_ifS (t_cmp (oLt_ok (ru64 hr)) (s_var (i := 3) rfl (vis_of rfl)) (s_op oPow_ok s_int s_int) (by rfl)) (ss_cons (s_set (i := 5) nd__law_draws rfl (loc_of rfl) (s_op oMod_ok (s_callTy fInt_ok rfl T.n_int bt_int (a_cons (s_op oAdd_ok (s_op oMul_ok (s_var (i := 3) rfl (vis_of rfl)) s_int) s_int) a_nil)) s_int)) (ss_cons (s_expr (s_me (by decide) PySem.F.plainAttrs_list PySem.F.slot_list_append PySem.F.type_list_append fAppend_ok (s_var (i := 1) rfl (vis_of rfl)) (a_cons (s_op oMod_ok (s_callTy fInt_ok rfl T.n_int bt_int (a_cons (s_op oAdd_ok (s_op oMul_ok (s_var (i := 5) rfl (vis_of rfl)) s_int) (s_var (i := 3) rfl (vis_of rfl))) a_nil)) s_int) a_nil))) (ss_cons (s_expr (s_me (by decide) PySem.F.plainAttrs_list PySem.F.slot_list_append PySem.F.type_list_append fAppend_ok (s_var (i := 1) rfl (vis_of rfl)) (a_cons (s_op oMod_ok (s_callTy fInt_ok rfl T.n_int bt_int (a_cons (s_op oAdd_ok (s_var (i := 5) rfl (vis_of rfl)) (s_op oDiv_ok (s_var (i := 3) rfl (vis_of rfl)) s_int)) a_nil)) s_int) a_nil))) (ss_one (s_set (i := 3) nd__law_draws rfl (loc_of rfl) s_int))))) ss_nil) (ss_one (s_for pown rfl (i_rng1 rfl T.n_range (a_cons s_int a_nil)) (g_name (i := 4) nd__law_draws rfl (loc_of rfl)) (ss_one (s_ifS (t_cmp (oGt_ok (ru64 hr)) (s_var (i := 3) rfl (vis_of rfl)) s_int (by rfl)) (ss_cons (s_expr (s_me (by decide) PySem.F.plainAttrs_list PySem.F.slot_list_append PySem.F.type_list_append fAppend_ok (s_var (i := 1) rfl (vis_of rfl)) (a_cons (s_op oMod_ok (s_callTy fInt_ok rfl T.n_int bt_int (a_cons (s_var (i := 3) rfl (vis_of rfl)) a_nil)) s_int) a_nil))) (ss_one (s_set (i := 3) nd__law_draws rfl (loc_of rfl) (s_op oDiv_ok (s_var (i := 3) rfl (vis_of rfl)) s_int)))) ss_nil))))))) (ss_cons (s_set (i := 6) nd__law_draws rfl (loc_of rfl) s_int) (ss_cons (s_ifS (t_cmp (oGt_ok (ru64 hr)) (s_callB fLen_ok rfl T.n_len bt_len (a_cons (s_var (i := 0) rfl (vis_of rfl)) a_nil)) s_int (by rfl)) (ss_one (s_set (i := 6) nd__law_draws rfl (loc_of rfl) (s_op oAdd_ok s_int (s_callB fAbs_ok rfl T.n_abs bt_abs (a_cons (s_ix (s_var (i := 0) rfl (vis_of rfl)) s_int) a_nil))))) ss_nil) (ss_cons (s_for pown rfl (i_rng1 rfl T.n_range (a_cons s_int a_nil)) (g_name (i := 4) nd__law_draws rfl (loc_of rfl)) (ss_cons (s_set (i := 6) nd__law_draws rfl (loc_of rfl) (s_op oMod_ok (s_callTy fInt_ok rfl T.n_int bt_int (a_cons (s_op oAdd_ok (s_op oMul_ok (s_var (i := 6) rfl (vis_of rfl)) s_int) s_int) a_nil)) s_int)) (ss_one (s_expr (s_me (by decide) PySem.F.plainAttrs_list PySem.F.slot_list_append PySem.F.type_list_append fAppend_ok (s_var (i := 1) rfl (vis_of rfl)) (a_cons (s_op oDiv_ok (s_var (i := 6) rfl (vis_of rfl)) s_int) a_nil)))))) (ss_one (s_ret (s_listRevN rfl rfl T.n_list rfl T.n_reversed (s_var (i := 1) rfl (vis_of rfl)))))))))
theorem d__law_draws (T : Txt K mg) {f : Addr} {fd : FuncData} (F : Fun K "_law_draws" "_law_draws" st__law_draws f fd) (hm : mg "_law_draws" = some (.ref f)) (b : Binds K fd ["script"] []) : DefV P w K mg base 1 "_law_draws" 1 F__law_draws := def_mk F hm b sc__law_draws fun cdv A outer s H E hr => b__law_draws T hr
/-! ### _law_alike -/
abbrev st__law_alike : Stmt := top 40
def N__law_alike : List Str := ["found", "due", "k"]
theorem nd__law_alike : N__law_alike.Nodup := by decide +kernel
theorem sc__law_alike : FnScope N__law_alike ["found", "due"] (defScope st__law_alike) := ⟨rfl, rfl, rfl, by decide +kernel, rfl, by decide +kernel, by decide +kernel⟩
def m__law_alike (Fr : Fn) : Sg → Hd → RS := mSeq (mIfS (mOr (mTru (mIsi "list" (mVar 1))) (mTru (mIsi "tuple" (mVar 1)))) (mSeq (mIfS (mOr (mTest (mBin oNe (mIsi "list" (mVar 0)) (mIsi "list" (mVar 1)))) (mTest (mBin oNe (mIsi "tuple" (mVar 0)) (mIsi "tuple" (mVar 1))))) (mRet (mC (.bl false))) mNext) (mRet (mAndV (mBin oEq (mCall fLen (mCons (mVar 0) mNil)) (mCall fLen (mCons (mVar 1) mNil))) (mBin oEq (mLc [2] (mRng1 (mCons (mCall fLen (mCons (mVar 1) mNil)) mNil)) (cmN 2) (mNot (mTru (mCall Fr (mCons (mBin oIx (mVar 0) (mVar 2)) (mCons (mBin oIx (mVar 1) (mVar 2)) mNil))))) (mVar 2)) (mLst mNil))))) mNext) (mSeq (mIfS (mTest (mBin (oIs false) (mVar 1) (mC .non))) (mRet (mBin (oIs false) (mVar 0) (mC .non))) mNext) (mSeq (mIfS (mOr (mTru (mIsi "bool" (mVar 1))) (mTru (mIsi "bool" (mVar 0)))) (mRet (mAndV (mIsi "bool" (mVar 0)) (mAndV (mIsi "bool" (mVar 1)) (mBin oEq (mVar 0) (mVar 1))))) mNext) (mSeq (mIfS (mTru (mIsi "int" (mVar 1))) (mRet (mAndV (mIsi "int" (mVar 0)) (mBin oEq (mVar 0) (mVar 1)))) mNext) (mRet (mAndV (mIsi "str" (mVar 0)) (mBin oEq (mVar 0) (mVar 1)))))))
def F__law_alike : Nat → Fn
  | 0 => fun _ _ => .bad
  | n + 1 => pureF (fnB 2 3 (m__law_alike (F__law_alike n)))
theorem b__law_alike (T : Txt K mg) {k : Nat} (hk : 0 ≤ k) {Fr : Fn} (dr : DefV P w K mg base k "_law_alike" 2 Fr) {f : Addr} {cdv : Value} {A : Around} {outer : List Env} {s : Shared} {H : Hp} {E : XK} (hr : Room k (A.deeper (PyProof.Rows.envOfC "_law_alike" (defScope st__law_alike) s.heap.objs.size f (cdv)))) :
    SSs (cxOf (L2N.CX P w) P w K mg base N__law_alike "_law_alike" (defScope st__law_alike) f (cdv) A outer s H E) (fun cls d _ H => E cls d H) (defBody st__law_alike) (m__law_alike Fr) :=
  ss_cons (s_ifS (t_w (w_or (t_tru (s_isi (s_var (i := 1) rfl (vis_of rfl)) rfl T.n_isinstance rfl T.n_list bt_list (by decide))) (w_or1 (t_tru (s_isi (s_var (i := 1) rfl (vis_of rfl)) rfl T.n_isinstance rfl T.n_tuple bt_tuple (by decide)))))) (ss_cons (s_ifS (t_w (w_or (t_cmp (oNe_ok (ru64 hr)) (s_isi (s_var (i := 0) rfl (vis_of rfl)) rfl T.n_isinstance rfl T.n_list bt_list (by decide)) (s_isi (s_var (i := 1) rfl (vis_of rfl)) rfl T.n_isinstance rfl T.n_list bt_list (by decide)) (by rfl)) (w_or1 (t_cmp (oNe_ok (ru64 hr)) (s_isi (s_var (i := 0) rfl (vis_of rfl)) rfl T.n_isinstance rfl T.n_tuple bt_tuple (by decide)) (s_isi (s_var (i := 1) rfl (vis_of rfl)) rfl T.n_isinstance rfl T.n_tuple bt_tuple (by decide)) (by rfl))))) (ss_one (s_ret s_bl)) ss_nil) (ss_one (s_ret (s_and (s_cmp (oEq_ok (ru64 hr)) (s_callB fLen_ok rfl T.n_len bt_len (a_cons (s_var (i := 0) rfl (vis_of rfl)) a_nil)) (s_callB fLen_ok rfl T.n_len bt_len (a_cons (s_var (i := 1) rfl (vis_of rfl)) a_nil)) (by rfl)) (s_one (s_cmp (oEq_ok (ru64 hr)) (s_lc (own := [("k", 2)]) ⟨rfl, nd__law_alike, blkOk_by (by kernel_rfl), by decide, by intro _; rfl, fun _ _ _ _ _ => ⟨c_name (i := 2) nd__law_alike rfl (loc_of rfl), pts_one (t_not (t_tru (s_call dr hr tk0 rfl (a_cons (s_ix (s_var (i := 0) rfl (vis_of rfl)) (s_var (i := 2) rfl (vis_of rfl))) (a_cons (s_ix (s_var (i := 1) rfl (vis_of rfl)) (s_var (i := 2) rfl (vis_of rfl))) a_nil))))), s_var (i := 2) rfl (vis_of rfl)⟩⟩ (i_rng1 rfl T.n_range (a_cons (s_callB fLen_ok rfl T.n_len bt_len (a_cons (s_var (i := 1) rfl (vis_of rfl)) a_nil)) a_nil))) (s_lst a_nil) (by rfl))))))) ss_nil) (ss_cons (s_ifS (t_cmp (oIs_ok) (s_var (i := 1) rfl (vis_of rfl)) s_non (by rfl)) (ss_one (s_ret (s_cmp (oIs_ok) (s_var (i := 0) rfl (vis_of rfl)) s_non (by rfl)))) ss_nil) (ss_cons (s_ifS (t_w (w_or (t_tru (s_isi (s_var (i := 1) rfl (vis_of rfl)) rfl T.n_isinstance rfl T.n_bool bt_bool (by decide))) (w_or1 (t_tru (s_isi (s_var (i := 0) rfl (vis_of rfl)) rfl T.n_isinstance rfl T.n_bool bt_bool (by decide)))))) (ss_one (s_ret (s_and (s_isi (s_var (i := 0) rfl (vis_of rfl)) rfl T.n_isinstance rfl T.n_bool bt_bool (by decide)) (s_and (s_isi (s_var (i := 1) rfl (vis_of rfl)) rfl T.n_isinstance rfl T.n_bool bt_bool (by decide)) (s_one (s_cmp (oEq_ok (ru64 hr)) (s_var (i := 0) rfl (vis_of rfl)) (s_var (i := 1) rfl (vis_of rfl)) (by rfl))))))) ss_nil) (ss_cons (s_ifS (t_tru (s_isi (s_var (i := 1) rfl (vis_of rfl)) rfl T.n_isinstance rfl T.n_int bt_int (by decide))) (ss_one (s_ret (s_and (s_isi (s_var (i := 0) rfl (vis_of rfl)) rfl T.n_isinstance rfl T.n_int bt_int (by decide)) (s_one (s_cmp (oEq_ok (ru64 hr)) (s_var (i := 0) rfl (vis_of rfl)) (s_var (i := 1) rfl (vis_of rfl)) (by rfl)))))) ss_nil) (ss_one (s_ret (s_and (s_isi (s_var (i := 0) rfl (vis_of rfl)) rfl T.n_isinstance rfl T.n_str bt_str (by decide)) (s_one (s_cmp (oEq_ok (ru64 hr)) (s_var (i := 0) rfl (vis_of rfl)) (s_var (i := 1) rfl (vis_of rfl)) (by rfl)))))))))
theorem d__law_alike (T : Txt K mg) {f : Addr} {fd : FuncData} (F : Fun K "_law_alike" "_law_alike" st__law_alike f fd) (hm : mg "_law_alike" = some (.ref f)) (b : Binds K fd ["found", "due"] []) : ∀ n, DefV P w K mg base (0 + n) "_law_alike" 2 (F__law_alike n)
  | 0 => def_bad _ F hm b
  | n + 1 => def_pure (def_mk F hm b sc__law_alike fun cdv A outer s H E hr => b__law_alike T (Nat.le_add_right _ _) (d__law_alike T F hm b n) hr)
/-! ### _law_take -/
abbrev st__law_take : Stmt := top 38
def N__law_take : List Str := ["draws", "bound"]
theorem nd__law_take : N__law_take.Nodup := by decide +kernel
theorem sc__law_take : FnScope N__law_take ["draws", "bound"] (defScope st__law_take) := ⟨rfl, rfl, rfl, by decide +kernel, rfl, by decide +kernel, by decide +kernel⟩
def m__law_take : Sg → Hd → RS := mSeq (mIfS (mTest (mBin oEq (mCall fLen (mCons (mVar 0) mNil)) (mC (.int 0)))) (mRet (mC (.int 0))) mNext) (mRet (mBin oMod (mCall fInt (mCons (mMe "list" fPop (mVar 0) mNil) mNil)) (mVar 1)))
def F__law_take : Fn := fnB 2 2 m__law_take
theorem b__law_take (T : Txt K mg) {f : Addr} {cdv : Value} {A : Around} {outer : List Env} {s : Shared} {H : Hp} {E : XK} (hr : Room 0 (A.deeper (PyProof.Rows.envOfC "_law_take" (defScope st__law_take) s.heap.objs.size f (cdv)))) :
    SSs (cxOf (L2N.CX P w) P w K mg base N__law_take "_law_take" (defScope st__law_take) f (cdv) A outer s H E) (fun cls d _ H => E cls d H) (defBody st__law_take) (m__law_take) :=
  ss_cons (s_ifS (t_cmp (oEq_ok (ru64 hr)) (s_callB fLen_ok rfl T.n_len bt_len (a_cons (s_var (i := 0) rfl (vis_of rfl)) a_nil)) s_int (by rfl)) (ss_one (s_ret s_int)) ss_nil) (ss_one (s_ret (s_op oMod_ok (s_callTy fInt_ok rfl T.n_int bt_int (a_cons (s_me0 (by decide) PySem.F.plainAttrs_list PySem.F.slot_list_pop PySem.F.type_list_pop fPop_ok (s_var (i := 0) rfl (vis_of rfl))) a_nil)) (s_var (i := 1) rfl (vis_of rfl)))))
theorem d__law_take (T : Txt K mg) {f : Addr} {fd : FuncData} (F : Fun K "_law_take" "_law_take" st__law_take f fd) (hm : mg "_law_take" = some (.ref f)) (b : Binds K fd ["draws", "bound"] []) : DefV P w K mg base 1 "_law_take" 2 F__law_take := def_mk F hm b sc__law_take fun cdv A outer s H E hr => b__law_take T hr
/-! ### check_posts -/
abbrev st_check_posts : Stmt := top 9
def N_check_posts : List Str := ["least", "number", "most"]
theorem nd_check_posts : N_check_posts.Nodup := by decide +kernel
theorem sc_check_posts : FnScope N_check_posts ["least", "number", "most"] (defScope st_check_posts) := ⟨rfl, rfl, rfl, by decide +kernel, rfl, by decide +kernel, by decide +kernel⟩
def m_check_posts : Sg → Hd → RS := mIfS (mNot (mTest (mChain oLe oLe (mVar 0) (mVar 1) (mVar 2)))) (mRaise "OutOfRange") mNext
def F_check_posts : Fn := pureF (fnB 3 3 m_check_posts)
theorem b_check_posts (T : Txt K mg) {f : Addr} {cdv : Value} {A : Around} {outer : List Env} {s : Shared} {H : Hp} {E : XK} (hr : Room 0 (A.deeper (PyProof.Rows.envOfC "check_posts" (defScope st_check_posts) s.heap.objs.size f (cdv)))) :
    SSs (cxOf (L2N.CX P w) P w K mg base N_check_posts "check_posts" (defScope st_check_posts) f (cdv) A outer s H E) (fun cls d _ H => E cls d H) (defBody st_check_posts) (m_check_posts) :=
  ss_one (s_ifS (t_not (t_chain (oLe_ok (ru64 hr)) (oLe_ok (ru64 hr)) (s_var (i := 0) rfl (vis_of rfl)) (s_var (i := 1) rfl (vis_of rfl)) (s_var (i := 2) rfl (vis_of rfl)))) (ss_one (s_raiseT rfl tkX T.e_OutOfRange rfl)) ss_nil)
theorem d_check_posts (T : Txt K mg) {f : Addr} {fd : FuncData} (F : Fun K "check_posts" "check_posts" st_check_posts f fd) (hm : mg "check_posts" = some (.ref f)) (b : Binds K fd ["least", "number", "most"] []) : DefV P w K mg base 1 "check_posts" 3 F_check_posts := def_pure (def_mk F hm b sc_check_posts fun cdv A outer s H E hr => b_check_posts T hr)
/-! ### made_web -/
abbrev st_made_web : Stmt := top 10
def N_made_web : List Str := ["posts", "ties"]
theorem nd_made_web : N_made_web.Nodup := by decide +kernel
theorem sc_made_web : FnScope N_made_web ["posts", "ties"] (defScope st_made_web) := ⟨rfl, rfl, rfl, by decide +kernel, rfl, by decide +kernel, by decide +kernel⟩
def m_made_web : Sg → Hd → RS := mRet (mTup (mCons (mVar 0) (mCons (mCall fTuple (mCons (mCall fSorted (mCons (mVar 1) mNil)) mNil)) mNil)))
def F_made_web : Fn := fnB 2 2 m_made_web
theorem b_made_web (T : Txt K mg) {f : Addr} {cdv : Value} {A : Around} {outer : List Env} {s : Shared} {H : Hp} {E : XK} (hr : Room 0 (A.deeper (PyProof.Rows.envOfC "made_web" (defScope st_made_web) s.heap.objs.size f (cdv)))) :
    SSs (cxOf (L2N.CX P w) P w K mg base N_made_web "made_web" (defScope st_made_web) f (cdv) A outer s H E) (fun cls d _ H => E cls d H) (defBody st_made_web) (m_made_web) :=
  ss_one (s_ret (s_tup (a_cons (s_var (i := 0) rfl (vis_of rfl)) (a_cons (s_callTy fTuple_ok rfl T.n_tuple bt_tuple (a_cons (s_callB (fSorted_ok (ru80 hr)) rfl T.n_sorted bt_sorted (a_cons (s_var (i := 1) rfl (vis_of rfl)) a_nil)) a_nil)) a_nil))))
theorem d_made_web (T : Txt K mg) {f : Addr} {fd : FuncData} (F : Fun K "made_web" "made_web" st_made_web f fd) (hm : mg "made_web" = some (.ref f)) (b : Binds K fd ["posts", "ties"] []) : DefV P w K mg base 1 "made_web" 2 F_made_web := def_mk F hm b sc_made_web fun cdv A outer s H E hr => b_made_web T hr
/-! ### row_ties -/
abbrev st_row_ties : Stmt := top 11
def N_row_ties : List Str := ["first", "posts", "at"]
theorem nd_row_ties : N_row_ties.Nodup := by decide +kernel
theorem sc_row_ties : FnScope N_row_ties ["first", "posts"] (defScope st_row_ties) := ⟨rfl, rfl, rfl, by decide +kernel, rfl, by decide +kernel, by decide +kernel⟩
def m_row_ties : Sg → Hd → RS := mRet (mLc [2] (mRng1 (mCons (mBin oSub (mVar 1) (mC (.int 1))) mNil)) (cmN 2) mYes (mTup (mCons (mBin oAdd (mVar 0) (mVar 2)) (mCons (mBin oAdd (mBin oAdd (mVar 0) (mVar 2)) (mC (.int 1))) mNil))))
def F_row_ties : Fn := pureF (fnB 2 3 m_row_ties)
theorem b_row_ties (T : Txt K mg) {f : Addr} {cdv : Value} {A : Around} {outer : List Env} {s : Shared} {H : Hp} {E : XK} (hr : Room 0 (A.deeper (PyProof.Rows.envOfC "row_ties" (defScope st_row_ties) s.heap.objs.size f (cdv)))) :
    SSs (cxOf (L2N.CX P w) P w K mg base N_row_ties "row_ties" (defScope st_row_ties) f (cdv) A outer s H E) (fun cls d _ H => E cls d H) (defBody st_row_ties) (m_row_ties) :=
  ss_one (s_ret (s_lc (own := [("at", 2)]) ⟨rfl, nd_row_ties, blkOk_by (by kernel_rfl), by decide, by intro _; rfl, fun _ _ _ _ _ => ⟨c_name (i := 2) nd_row_ties rfl (loc_of rfl), ts_nil, s_tup (a_cons (s_op oAdd_ok (s_var (i := 0) rfl (vis_of rfl)) (s_var (i := 2) rfl (vis_of rfl))) (a_cons (s_op oAdd_ok (s_op oAdd_ok (s_var (i := 0) rfl (vis_of rfl)) (s_var (i := 2) rfl (vis_of rfl))) s_int) a_nil))⟩⟩ (i_rng1 rfl T.n_range (a_cons (s_op oSub_ok (s_var (i := 1) rfl (vis_of rfl)) s_int) a_nil))))
theorem d_row_ties (T : Txt K mg) {f : Addr} {fd : FuncData} (F : Fun K "row_ties" "row_ties" st_row_ties f fd) (hm : mg "row_ties" = some (.ref f)) (b : Binds K fd ["first", "posts"] []) : DefV P w K mg base 1 "row_ties" 2 F_row_ties := def_pure (def_mk F hm b sc_row_ties fun cdv A outer s H E hr => b_row_ties T hr)
/-! ### grid_web -/
abbrev st_grid_web : Stmt := top 20
def N_grid_web : List Str := ["rows", "columns", "ties", "row", "at"]
theorem nd_grid_web : N_grid_web.Nodup := by decide +kernel
theorem sc_grid_web : FnScope N_grid_web ["rows", "columns"] (defScope st_grid_web) := ⟨rfl, rfl, rfl, by decide +kernel, rfl, by decide +kernel, by decide +kernel⟩
def mb_grid_web_0 : Sg → Hd → RS := mSeq (mDrop (mMe "list" fExtend (mVar 2) (mCons (mCall F_row_ties (mCons (mBin oMul (mVar 3) (mVar 1)) (mCons (mVar 1) mNil))) mNil))) (mIfS (mTest (mBin oGt (mVar 3) (mC (.int 0)))) (mDrop (mMe "list" fExtend (mVar 2) (mCons (mLc [4] (mRng1 (mCons (mVar 1) mNil)) (cmN 4) mYes (mTup (mCons (mBin oAdd (mBin oMul (mBin oSub (mVar 3) (mC (.int 1))) (mVar 1)) (mVar 4)) (mCons (mBin oAdd (mBin oMul (mVar 3) (mVar 1)) (mVar 4)) mNil)))) mNil))) mNext)
def m_grid_web : Sg → Hd → RS := mSeq (mDrop (mCall F_check_posts (mCons (mC (.int 1)) (mCons (mVar 0) (mCons (mC (.int 12)) mNil))))) (mSeq (mDrop (mCall F_check_posts (mCons (mC (.int 1)) (mCons (mVar 1) (mCons (mC (.int 12)) mNil))))) (mSeq (mDrop (mCall F_check_posts (mCons (mC (.int 1)) (mCons (mBin oMul (mVar 0) (mVar 1)) (mCons (mC (.int 12)) mNil))))) (mSeq (mSet 2 (mNew mNil)) (mSeq (mFor (mRng1 (mCons (mVar 0) mNil)) (gmN 3) (mb_grid_web_0)) (mRet (mCall F_made_web (mCons (mBin oMul (mVar 0) (mVar 1)) (mCons (mVar 2) mNil))))))))
def F_grid_web : Fn := pureF (fnB 2 5 m_grid_web)
theorem b_grid_web (T : Txt K mg) (d_check_posts : DefV P w K mg base 1 "check_posts" 3 F_check_posts) (d_made_web : DefV P w K mg base 1 "made_web" 2 F_made_web) (d_row_ties : DefV P w K mg base 1 "row_ties" 2 F_row_ties) {f : Addr} {cdv : Value} {A : Around} {outer : List Env} {s : Shared} {H : Hp} {E : XK} (hr : Room 1 (A.deeper (PyProof.Rows.envOfC "grid_web" (defScope st_grid_web) s.heap.objs.size f (cdv)))) :
    SSs (cxOf (L2N.CX P w) P w K mg base N_grid_web "grid_web" (defScope st_grid_web) f (cdv) A outer s H E) (fun cls d _ H => E cls d H) (defBody st_grid_web) (m_grid_web) :=
  ss_cons (s_expr (s_call (d_check_posts.mono (by decide)) hr tkX rfl (a_cons s_int (a_cons (s_var (i := 0) rfl (vis_of rfl)) (a_cons (s_glI' rfl T.c_MOST_POSTS_makers) a_nil))))) (ss_cons (s_expr (s_call (d_check_posts.mono (by decide)) hr tkX rfl (a_cons s_int (a_cons (s_var (i := 1) rfl (vis_of rfl)) (a_cons (s_glI' rfl T.c_MOST_POSTS_makers) a_nil))))) (ss_cons (s_expr (s_call (d_check_posts.mono (by decide)) hr tkX rfl (a_cons s_int (a_cons (s_op oMul_ok (s_var (i := 0) rfl (vis_of rfl)) (s_var (i := 1) rfl (vis_of rfl))) (a_cons (s_glI' rfl T.c_MOST_POSTS_makers) a_nil))))) (ss_cons (s_set (i := 2) nd_grid_web rfl (loc_of rfl) (s_new a_nil)) (ss_cons (s_for pown rfl (i_rng1 rfl T.n_range (a_cons (s_var (i := 0) rfl (vis_of rfl)) a_nil)) (g_name (i := 3) nd_grid_web rfl (loc_of rfl)) (ss_cons (s_expr (s_me (by decide) PySem.F.plainAttrs_list PySem.F.slot_list_extend PySem.F.type_list_extend fExtend_ok (s_var (i := 2) rfl (vis_of rfl)) (a_cons (s_call (d_row_ties.mono (by decide)) hr tkX rfl (a_cons (s_op oMul_ok (s_var (i := 3) rfl (vis_of rfl)) (s_var (i := 1) rfl (vis_of rfl))) (a_cons (s_var (i := 1) rfl (vis_of rfl)) a_nil))) a_nil))) (ss_one (s_ifS (t_cmp (oGt_ok (ru64 hr)) (s_var (i := 3) rfl (vis_of rfl)) s_int (by rfl)) (ss_one (s_expr (s_me (by decide) PySem.F.plainAttrs_list PySem.F.slot_list_extend PySem.F.type_list_extend fExtend_ok (s_var (i := 2) rfl (vis_of rfl)) (a_cons (s_lc (own := [("at", 4)]) ⟨rfl, nd_grid_web, blkOk_by (by kernel_rfl), by decide, by intro _; rfl, fun _ _ _ _ _ => ⟨c_name (i := 4) nd_grid_web rfl (loc_of rfl), ts_nil, s_tup (a_cons (s_op oAdd_ok (s_op oMul_ok (s_op oSub_ok (s_var (i := 3) rfl (vis_of rfl)) s_int) (s_var (i := 1) rfl (vis_of rfl))) (s_var (i := 4) rfl (vis_of rfl))) (a_cons (s_op oAdd_ok (s_op oMul_ok (s_var (i := 3) rfl (vis_of rfl)) (s_var (i := 1) rfl (vis_of rfl))) (s_var (i := 4) rfl (vis_of rfl))) a_nil))⟩⟩ (i_rng1 rfl T.n_range (a_cons (s_var (i := 1) rfl (vis_of rfl)) a_nil))) a_nil)))) ss_nil)))) (ss_one (s_ret (s_call (d_made_web.mono (by decide)) hr tkX rfl (a_cons (s_op oMul_ok (s_var (i := 0) rfl (vis_of rfl)) (s_var (i := 1) rfl (vis_of rfl))) (a_cons (s_var (i := 2) rfl (vis_of rfl)) a_nil)))))))))
theorem d_grid_web (T : Txt K mg) (d_check_posts : DefV P w K mg base 1 "check_posts" 3 F_check_posts) (d_made_web : DefV P w K mg base 1 "made_web" 2 F_made_web) (d_row_ties : DefV P w K mg base 1 "row_ties" 2 F_row_ties) {f : Addr} {fd : FuncData} (F : Fun K "grid_web" "grid_web" st_grid_web f fd) (hm : mg "grid_web" = some (.ref f)) (b : Binds K fd ["rows", "columns"] []) : DefV P w K mg base 2 "grid_web" 2 F_grid_web := def_pure (def_mk F hm b sc_grid_web fun cdv A outer s H E hr => b_grid_web T d_check_posts d_made_web d_row_ties hr)
/-! ### sides_web -/
abbrev st_sides_web : Stmt := top 21
def N_sides_web : List Str := ["one", "other", "left", "right"]
theorem nd_sides_web : N_sides_web.Nodup := by decide +kernel
theorem sc_sides_web : FnScope N_sides_web ["one", "other"] (defScope st_sides_web) := ⟨rfl, rfl, rfl, by decide +kernel, rfl, by decide +kernel, by decide +kernel⟩
def m_sides_web : Sg → Hd → RS := mSeq (mDrop (mCall F_check_posts (mCons (mC (.int 1)) (mCons (mVar 0) (mCons (mC (.int 12)) mNil))))) (mSeq (mDrop (mCall F_check_posts (mCons (mC (.int 1)) (mCons (mVar 1) (mCons (mC (.int 12)) mNil))))) (mSeq (mDrop (mCall F_check_posts (mCons (mC (.int 2)) (mCons (mBin oAdd (mVar 0) (mVar 1)) (mCons (mC (.int 12)) mNil))))) (mRet (mCall F_made_web (mCons (mBin oAdd (mVar 0) (mVar 1)) (mCons (mLc2 [2, 3] [3] (mRng1 (mCons (mVar 0) mNil)) (cmN 2) mYes (mRng1 (mCons (mVar 1) mNil)) (cmN 3) mYes (mTup (mCons (mVar 2) (mCons (mBin oAdd (mVar 0) (mVar 3)) mNil)))) mNil))))))
def F_sides_web : Fn := pureF (fnB 2 4 m_sides_web)
theorem b_sides_web (T : Txt K mg) (d_check_posts : DefV P w K mg base 1 "check_posts" 3 F_check_posts) (d_made_web : DefV P w K mg base 1 "made_web" 2 F_made_web) {f : Addr} {cdv : Value} {A : Around} {outer : List Env} {s : Shared} {H : Hp} {E : XK} (hr : Room 1 (A.deeper (PyProof.Rows.envOfC "sides_web" (defScope st_sides_web) s.heap.objs.size f (cdv)))) :
    SSs (cxOf (L2N.CX P w) P w K mg base N_sides_web "sides_web" (defScope st_sides_web) f (cdv) A outer s H E) (fun cls d _ H => E cls d H) (defBody st_sides_web) (m_sides_web) :=
  ss_cons (s_expr (s_call (d_check_posts.mono (by decide)) hr tkX rfl (a_cons s_int (a_cons (s_var (i := 0) rfl (vis_of rfl)) (a_cons (s_glI' rfl T.c_MOST_POSTS_makers) a_nil))))) (ss_cons (s_expr (s_call (d_check_posts.mono (by decide)) hr tkX rfl (a_cons s_int (a_cons (s_var (i := 1) rfl (vis_of rfl)) (a_cons (s_glI' rfl T.c_MOST_POSTS_makers) a_nil))))) (ss_cons (s_expr (s_call (d_check_posts.mono (by decide)) hr tkX rfl (a_cons s_int (a_cons (s_op oAdd_ok (s_var (i := 0) rfl (vis_of rfl)) (s_var (i := 1) rfl (vis_of rfl))) (a_cons (s_glI' rfl T.c_MOST_POSTS_makers) a_nil))))) (ss_one (s_ret (s_call (d_made_web.mono (by decide)) hr tkX rfl (a_cons (s_op oAdd_ok (s_var (i := 0) rfl (vis_of rfl)) (s_var (i := 1) rfl (vis_of rfl))) (a_cons (s_lc2 (own := [("left", 2), ("right", 3)]) (vs1 := [3]) ⟨rfl, nd_sides_web, blkOk_by (by kernel_rfl), by decide, by decide, by decide, by intro _; rfl, by intro _ _; rfl, fun _ _ _ _ _ => ⟨⟨c_name (i := 2) nd_sides_web rfl (loc_of rfl), ts_nil⟩, i_rng1 rfl T.n_range (a_cons (s_var (i := 1) rfl (vis_of rfl)) a_nil), c_name (i := 3) nd_sides_web rfl (loc_of rfl), ts_nil, s_tup (a_cons (s_var (i := 2) rfl (vis_of rfl)) (a_cons (s_op oAdd_ok (s_var (i := 0) rfl (vis_of rfl)) (s_var (i := 3) rfl (vis_of rfl))) a_nil))⟩⟩ (i_rng1 rfl T.n_range (a_cons (s_var (i := 0) rfl (vis_of rfl)) a_nil))) a_nil)))))))
theorem d_sides_web (T : Txt K mg) (d_check_posts : DefV P w K mg base 1 "check_posts" 3 F_check_posts) (d_made_web : DefV P w K mg base 1 "made_web" 2 F_made_web) {f : Addr} {fd : FuncData} (F : Fun K "sides_web" "sides_web" st_sides_web f fd) (hm : mg "sides_web" = some (.ref f)) (b : Binds K fd ["one", "other"] []) : DefV P w K mg base 2 "sides_web" 2 F_sides_web := def_pure (def_mk F hm b sc_sides_web fun cdv A outer s H E hr => b_sides_web T d_check_posts d_made_web hr)
/-! ### _law_word -/
abbrev st__law_word : Stmt := top 41
def N__law_word : List Str := ["error", "kinds"]
theorem nd__law_word : N__law_word.Nodup := by decide +kernel
theorem sc__law_word : FnScope N__law_word ["error"] (defScope st__law_word) := ⟨rfl, rfl, rfl, by decide +kernel, rfl, by decide +kernel, by decide +kernel⟩
def m__law_word (b0 b1 b2 b3 b4 b5 : Bool) (a : Nat) : Sg → Hd → RS := mSeq (mSet 1 (mLst (mCons (mIsE b4 a (mVar 0)) (mCons (mIsE b3 a (mVar 0)) (mCons (mIsE b2 a (mVar 0)) (mCons (mIsE b1 a (mVar 0)) (mCons (mIsE b0 a (mVar 0)) mNil))))))) (mRet (mIf (mAnd (mTest (mBin oEq (mMe "list" fCount (mVar 1) (mCons (mC (.bl true)) mNil)) (mC (.int 1)))) (mTru (mIsE b5 a (mVar 0)))) (mBin oIx (mLst (mCons (mC (.str "range")) (mCons (mC (.str "form")) (mCons (mC (.str "none")) (mCons (mC (.str "refused")) (mCons (mC (.str "much")) mNil)))))) (mMe "list" fIndex (mVar 1) (mCons (mC (.bl true)) mNil))) (mC (.str "many"))))
theorem b__law_word (T : Txt K mg) {b0 b1 b2 b3 b4 b5 : Bool} {a D : Addr} {oe : Obj} (hE : ExcC K D) (hz : L2N.Zn (.ref D) none oe) (hf : ∃ vs, oe.data = .fields vs) {C0 : Addr} (hc0 : mg "TooMuch" = some (.ref C0)) (hk0 : PySem.W.kitOne K (.ref D) (.ref C0) = some b0) {C1 : Addr} (hc1 : mg "Refused" = some (.ref C1)) (hk1 : PySem.W.kitOne K (.ref D) (.ref C1) = some b1) {C2 : Addr} (hc2 : mg "NotThere" = some (.ref C2)) (hk2 : PySem.W.kitOne K (.ref D) (.ref C2) = some b2) {C3 : Addr} (hc3 : mg "Malformed" = some (.ref C3)) (hk3 : PySem.W.kitOne K (.ref D) (.ref C3) = some b3) {C4 : Addr} (hc4 : mg "OutOfRange" = some (.ref C4)) (hk4 : PySem.W.kitOne K (.ref D) (.ref C4) = some b4) (hk5 : PySem.W.kitOne K (.ref D) (.type "ValueError") = some b5) {f : Addr} {cdv : Value} {A : Around} {outer : List Env} {s : Shared} {H : Hp} (hr : L2H.RoomH 0 (A.deeper (PyProof.Rows.envOfC "_law_word" (defScope st__law_word) s.heap.objs.size f cdv))) :
    SSs (L2H.cxH CX0 P w K mg base N__law_word "_law_word" (defScope st__law_word) f cdv A outer s H E0 (a, oe)) WF (defBody st__law_word) (m__law_word b0 b1 b2 b3 b4 b5 a) :=
  ss_cons (s_set (i := 1) nd__law_word rfl (loc_of rfl) (s_lst (a_cons (s_isE List.mem_cons_self hE hz hf (s_var (i := 0) rfl (vis_of rfl)) (pe_glob (v := .ref C4) rfl hc4 rfl) (by intro u h; exact h) hk4 rfl T.n_isinstance) (a_cons (s_isE List.mem_cons_self hE hz hf (s_var (i := 0) rfl (vis_of rfl)) (pe_glob (v := .ref C3) rfl hc3 rfl) (by intro u h; exact h) hk3 rfl T.n_isinstance) (a_cons (s_isE List.mem_cons_self hE hz hf (s_var (i := 0) rfl (vis_of rfl)) (pe_glob (v := .ref C2) rfl hc2 rfl) (by intro u h; exact h) hk2 rfl T.n_isinstance) (a_cons (s_isE List.mem_cons_self hE hz hf (s_var (i := 0) rfl (vis_of rfl)) (pe_glob (v := .ref C1) rfl hc1 rfl) (by intro u h; exact h) hk1 rfl T.n_isinstance) (a_cons (s_isE List.mem_cons_self hE hz hf (s_var (i := 0) rfl (vis_of rfl)) (pe_glob (v := .ref C0) rfl hc0 rfl) (by intro u h; exact h) hk0 rfl T.n_isinstance) a_nil))))))) (ss_one (s_ret (s_if (t_w (w_and (t_cmp (oEq_ok (rv64 hr)) (s_me (by decide) PySem.F.plainAttrs_list PySem.F.slot_list_count PySem.F.type_list_count (fCount_ok (rv65 hr)) (s_var (i := 1) rfl (vis_of rfl)) (a_cons s_bl a_nil)) s_int (by rfl)) (w_and1 (t_tru (s_isE List.mem_cons_self hE hz hf (s_var (i := 0) rfl (vis_of rfl)) (pe_bltn (v := .ty "ValueError") rfl T.n_ValueError bt_ValueError rfl) (by intro u h; exact h) hk5 rfl T.n_isinstance))))) (s_ix (s_lst (a_cons s_str (a_cons s_str (a_cons s_str (a_cons s_str (a_cons s_str a_nil)))))) (s_me (by decide) PySem.F.plainAttrs_list PySem.F.slot_list_index PySem.F.type_list_index (fIndex_ok (rv65 hr)) (s_var (i := 1) rfl (vis_of rfl)) (a_cons s_bl a_nil))) s_str)))
def w__law_word : Str → Option Str := fun c => if c = "OutOfRange" then some "range" else none
/-! ### row_web -/
abbrev st_row_web : Stmt := top 13
def N_row_web : List Str := ["n"]
theorem nd_row_web : N_row_web.Nodup := by decide +kernel
theorem sc_row_web : FnScope N_row_web ["n"] (defScope st_row_web) := ⟨rfl, rfl, rfl, by decide +kernel, rfl, by decide +kernel, by decide +kernel⟩
def m_row_web : Sg → Hd → RS := mSeq (mDrop (mCall F_check_posts (mCons (mC (.int 1)) (mCons (mVar 0) (mCons (mC (.int 12)) mNil))))) (mRet (mCall F_made_web (mCons (mVar 0) (mCons (mCall F_row_ties (mCons (mC (.int 0)) (mCons (mVar 0) mNil))) mNil))))
def F_row_web : Fn := pureF (fnB 1 1 m_row_web)
theorem b_row_web (T : Txt K mg) (d_check_posts : DefV P w K mg base 1 "check_posts" 3 F_check_posts) (d_made_web : DefV P w K mg base 1 "made_web" 2 F_made_web) (d_row_ties : DefV P w K mg base 1 "row_ties" 2 F_row_ties) {f : Addr} {cdv : Value} {A : Around} {outer : List Env} {s : Shared} {H : Hp} {E : XK} (hr : Room 1 (A.deeper (PyProof.Rows.envOfC "row_web" (defScope st_row_web) s.heap.objs.size f (cdv)))) :
    SSs (cxOf (L2N.CX P w) P w K mg base N_row_web "row_web" (defScope st_row_web) f (cdv) A outer s H E) (fun cls d _ H => E cls d H) (defBody st_row_web) (m_row_web) :=
  ss_cons (s_expr (s_call (d_check_posts.mono (by decide)) hr tkX rfl (a_cons s_int (a_cons (s_var (i := 0) rfl (vis_of rfl)) (a_cons (s_glI' rfl T.c_MOST_POSTS_makers) a_nil))))) (ss_one (s_ret (s_call (d_made_web.mono (by decide)) hr tkX rfl (a_cons (s_var (i := 0) rfl (vis_of rfl)) (a_cons (s_call (d_row_ties.mono (by decide)) hr tkX rfl (a_cons s_int (a_cons (s_var (i := 0) rfl (vis_of rfl)) a_nil))) a_nil)))))
theorem d_row_web (T : Txt K mg) (d_check_posts : DefV P w K mg base 1 "check_posts" 3 F_check_posts) (d_made_web : DefV P w K mg base 1 "made_web" 2 F_made_web) (d_row_ties : DefV P w K mg base 1 "row_ties" 2 F_row_ties) {f : Addr} {fd : FuncData} (F : Fun K "row_web" "row_web" st_row_web f fd) (hm : mg "row_web" = some (.ref f)) (b : Binds K fd ["n"] []) : DefV P w K mg base 2 "row_web" 1 F_row_web := def_pure (def_mk F hm b sc_row_web fun cdv A outer s H E hr => b_row_web T d_check_posts d_made_web d_row_ties hr)
/-! ### star_ties -/
abbrev st_star_ties : Stmt := top 12
def N_star_ties : List Str := ["others", "at"]
theorem nd_star_ties : N_star_ties.Nodup := by decide +kernel
theorem sc_star_ties : FnScope N_star_ties ["others"] (defScope st_star_ties) := ⟨rfl, rfl, rfl, by decide +kernel, rfl, by decide +kernel, by decide +kernel⟩
def m_star_ties : Sg → Hd → RS := mRet (mLc [1] (mRng1 (mCons (mVar 0) mNil)) (cmN 1) mYes (mTup (mCons (mC (.int 0)) (mCons (mBin oAdd (mVar 1) (mC (.int 1))) mNil))))
def F_star_ties : Fn := pureF (fnB 1 2 m_star_ties)
theorem b_star_ties (T : Txt K mg) {f : Addr} {cdv : Value} {A : Around} {outer : List Env} {s : Shared} {H : Hp} {E : XK} (hr : Room 0 (A.deeper (PyProof.Rows.envOfC "star_ties" (defScope st_star_ties) s.heap.objs.size f (cdv)))) :
    SSs (cxOf (L2N.CX P w) P w K mg base N_star_ties "star_ties" (defScope st_star_ties) f (cdv) A outer s H E) (fun cls d _ H => E cls d H) (defBody st_star_ties) (m_star_ties) :=
  ss_one (s_ret (s_lc (own := [("at", 1)]) ⟨rfl, nd_star_ties, blkOk_by (by kernel_rfl), by decide, by intro _; rfl, fun _ _ _ _ _ => ⟨c_name (i := 1) nd_star_ties rfl (loc_of rfl), ts_nil, s_tup (a_cons s_int (a_cons (s_op oAdd_ok (s_var (i := 1) rfl (vis_of rfl)) s_int) a_nil))⟩⟩ (i_rng1 rfl T.n_range (a_cons (s_var (i := 0) rfl (vis_of rfl)) a_nil))))
theorem d_star_ties (T : Txt K mg) {f : Addr} {fd : FuncData} (F : Fun K "star_ties" "star_ties" st_star_ties f fd) (hm : mg "star_ties" = some (.ref f)) (b : Binds K fd ["others"] []) : DefV P w K mg base 1 "star_ties" 1 F_star_ties := def_pure (def_mk F hm b sc_star_ties fun cdv A outer s H E hr => b_star_ties T hr)
/-! ### wheel_web -/
abbrev st_wheel_web : Stmt := top 17
def N_wheel_web : List Str := ["n"]
theorem nd_wheel_web : N_wheel_web.Nodup := by decide +kernel
theorem sc_wheel_web : FnScope N_wheel_web ["n"] (defScope st_wheel_web) := ⟨rfl, rfl, rfl, by decide +kernel, rfl, by decide +kernel, by decide +kernel⟩
def m_wheel_web : Sg → Hd → RS := mSeq (mDrop (mCall F_check_posts (mCons (mC (.int 3)) (mCons (mVar 0) (mCons (mBin oSub (mC (.int 12)) (mC (.int 1))) mNil))))) (mRet (mCall F_made_web (mCons (mBin oAdd (mVar 0) (mC (.int 1))) (mCons (mLst (mStar (mCall F_star_ties (mCons (mVar 0) mNil)) (mStar (mCall F_row_ties (mCons (mC (.int 1)) (mCons (mVar 0) mNil))) (mCons (mTup (mCons (mC (.int 1)) (mCons (mVar 0) mNil))) mNil)))) mNil))))
def F_wheel_web : Fn := pureF (fnB 1 1 m_wheel_web)
theorem b_wheel_web (T : Txt K mg) (d_check_posts : DefV P w K mg base 1 "check_posts" 3 F_check_posts) (d_made_web : DefV P w K mg base 1 "made_web" 2 F_made_web) (d_row_ties : DefV P w K mg base 1 "row_ties" 2 F_row_ties) (d_star_ties : DefV P w K mg base 1 "star_ties" 1 F_star_ties) {f : Addr} {cdv : Value} {A : Around} {outer : List Env} {s : Shared} {H : Hp} {E : XK} (hr : Room 1 (A.deeper (PyProof.Rows.envOfC "wheel_web" (defScope st_wheel_web) s.heap.objs.size f (cdv)))) :
    SSs (cxOf (L2N.CX P w) P w K mg base N_wheel_web "wheel_web" (defScope st_wheel_web) f (cdv) A outer s H E) (fun cls d _ H => E cls d H) (defBody st_wheel_web) (m_wheel_web) :=
  ss_cons (s_expr (s_call (d_check_posts.mono (by decide)) hr tkX rfl (a_cons s_int (a_cons (s_var (i := 0) rfl (vis_of rfl)) (a_cons (s_op oSub_ok (s_glI' rfl T.c_MOST_POSTS_makers) s_int) a_nil))))) (ss_one (s_ret (s_call (d_made_web.mono (by decide)) hr tkX rfl (a_cons (s_op oAdd_ok (s_var (i := 0) rfl (vis_of rfl)) s_int) (a_cons (s_lst (a_star (s_call (d_star_ties.mono (by decide)) hr tkX rfl (a_cons (s_var (i := 0) rfl (vis_of rfl)) a_nil)) (a_star (s_call (d_row_ties.mono (by decide)) hr tkX rfl (a_cons s_int (a_cons (s_var (i := 0) rfl (vis_of rfl)) a_nil))) (a_cons (s_tup (a_cons s_int (a_cons (s_var (i := 0) rfl (vis_of rfl)) a_nil))) a_nil)))) a_nil)))))
theorem d_wheel_web (T : Txt K mg) (d_check_posts : DefV P w K mg base 1 "check_posts" 3 F_check_posts) (d_made_web : DefV P w K mg base 1 "made_web" 2 F_made_web) (d_row_ties : DefV P w K mg base 1 "row_ties" 2 F_row_ties) (d_star_ties : DefV P w K mg base 1 "star_ties" 1 F_star_ties) {f : Addr} {fd : FuncData} (F : Fun K "wheel_web" "wheel_web" st_wheel_web f fd) (hm : mg "wheel_web" = some (.ref f)) (b : Binds K fd ["n"] []) : DefV P w K mg base 2 "wheel_web" 1 F_wheel_web := def_pure (def_mk F hm b sc_wheel_web fun cdv A outer s H E hr => b_wheel_web T d_check_posts d_made_web d_row_ties d_star_ties hr)
/-! ### ring_web -/
abbrev st_ring_web : Stmt := top 14
def N_ring_web : List Str := ["n"]
theorem nd_ring_web : N_ring_web.Nodup := by decide +kernel
theorem sc_ring_web : FnScope N_ring_web ["n"] (defScope st_ring_web) := ⟨rfl, rfl, rfl, by decide +kernel, rfl, by decide +kernel, by decide +kernel⟩
def m_ring_web : Sg → Hd → RS := mSeq (mDrop (mCall F_check_posts (mCons (mC (.int 3)) (mCons (mVar 0) (mCons (mC (.int 12)) mNil))))) (mRet (mCall F_made_web (mCons (mVar 0) (mCons (mLst (mStar (mCall F_row_ties (mCons (mC (.int 0)) (mCons (mVar 0) mNil))) (mCons (mTup (mCons (mC (.int 0)) (mCons (mBin oSub (mVar 0) (mC (.int 1))) mNil))) mNil))) mNil))))
def F_ring_web : Fn := pureF (fnB 1 1 m_ring_web)
theorem b_ring_web (T : Txt K mg) (d_check_posts : DefV P w K mg base 1 "check_posts" 3 F_check_posts) (d_made_web : DefV P w K mg base 1 "made_web" 2 F_made_web) (d_row_ties : DefV P w K mg base 1 "row_ties" 2 F_row_ties) {f : Addr} {cdv : Value} {A : Around} {outer : List Env} {s : Shared} {H : Hp} {E : XK} (hr : Room 1 (A.deeper (PyProof.Rows.envOfC "ring_web" (defScope st_ring_web) s.heap.objs.size f (cdv)))) :
    SSs (cxOf (L2N.CX P w) P w K mg base N_ring_web "ring_web" (defScope st_ring_web) f (cdv) A outer s H E) (fun cls d _ H => E cls d H) (defBody st_ring_web) (m_ring_web) :=
  ss_cons (s_expr (s_call (d_check_posts.mono (by decide)) hr tkX rfl (a_cons s_int (a_cons (s_var (i := 0) rfl (vis_of rfl)) (a_cons (s_glI' rfl T.c_MOST_POSTS_makers) a_nil))))) (ss_one (s_ret (s_call (d_made_web.mono (by decide)) hr tkX rfl (a_cons (s_var (i := 0) rfl (vis_of rfl)) (a_cons (s_lst (a_star (s_call (d_row_ties.mono (by decide)) hr tkX rfl (a_cons s_int (a_cons (s_var (i := 0) rfl (vis_of rfl)) a_nil))) (a_cons (s_tup (a_cons s_int (a_cons (s_op oSub_ok (s_var (i := 0) rfl (vis_of rfl)) s_int) a_nil))) a_nil))) a_nil)))))
theorem d_ring_web (T : Txt K mg) (d_check_posts : DefV P w K mg base 1 "check_posts" 3 F_check_posts) (d_made_web : DefV P w K mg base 1 "made_web" 2 F_made_web) (d_row_ties : DefV P w K mg base 1 "row_ties" 2 F_row_ties) {f : Addr} {fd : FuncData} (F : Fun K "ring_web" "ring_web" st_ring_web f fd) (hm : mg "ring_web" = some (.ref f)) (b : Binds K fd ["n"] []) : DefV P w K mg base 2 "ring_web" 1 F_ring_web := def_pure (def_mk F hm b sc_ring_web fun cdv A outer s H E hr => b_ring_web T d_check_posts d_made_web d_row_ties hr)
/-! ### full_web -/
abbrev st_full_web : Stmt := top 18
def N_full_web : List Str := ["n", "one", "other"]
theorem nd_full_web : N_full_web.Nodup := by decide +kernel
theorem sc_full_web : FnScope N_full_web ["n"] (defScope st_full_web) := ⟨rfl, rfl, rfl, by decide +kernel, rfl, by decide +kernel, by decide +kernel⟩
def m_full_web : Sg → Hd → RS := mSeq (mDrop (mCall F_check_posts (mCons (mC (.int 1)) (mCons (mVar 0) (mCons (mC (.int 12)) mNil))))) (mRet (mCall F_made_web (mCons (mVar 0) (mCons (mLc2 [1, 2] [2] (mRng1 (mCons (mVar 0) mNil)) (cmN 1) mYes (mRng2 (mCons (mBin oAdd (mVar 1) (mC (.int 1))) (mCons (mVar 0) mNil))) (cmN 2) mYes (mTup (mCons (mVar 1) (mCons (mVar 2) mNil)))) mNil))))
def F_full_web : Fn := pureF (fnB 1 3 m_full_web)
theorem b_full_web (T : Txt K mg) (d_check_posts : DefV P w K mg base 1 "check_posts" 3 F_check_posts) (d_made_web : DefV P w K mg base 1 "made_web" 2 F_made_web) {f : Addr} {cdv : Value} {A : Around} {outer : List Env} {s : Shared} {H : Hp} {E : XK} (hr : Room 1 (A.deeper (PyProof.Rows.envOfC "full_web" (defScope st_full_web) s.heap.objs.size f (cdv)))) :
    SSs (cxOf (L2N.CX P w) P w K mg base N_full_web "full_web" (defScope st_full_web) f (cdv) A outer s H E) (fun cls d _ H => E cls d H) (defBody st_full_web) (m_full_web) :=
  ss_cons (s_expr (s_call (d_check_posts.mono (by decide)) hr tkX rfl (a_cons s_int (a_cons (s_var (i := 0) rfl (vis_of rfl)) (a_cons (s_glI' rfl T.c_MOST_POSTS_makers) a_nil))))) (ss_one (s_ret (s_call (d_made_web.mono (by decide)) hr tkX rfl (a_cons (s_var (i := 0) rfl (vis_of rfl)) (a_cons (s_lc2 (own := [("one", 1), ("other", 2)]) (vs1 := [2]) ⟨rfl, nd_full_web, blkOk_by (by kernel_rfl), by decide, by decide, by decide, by intro _; rfl, by intro _ _; rfl, fun _ _ _ _ _ => ⟨⟨c_name (i := 1) nd_full_web rfl (loc_of rfl), ts_nil⟩, i_rng2 rfl T.n_range (a_cons (s_op oAdd_ok (s_var (i := 1) rfl (vis_of rfl)) s_int) (a_cons (s_var (i := 0) rfl (vis_of rfl)) a_nil)), c_name (i := 2) nd_full_web rfl (loc_of rfl), ts_nil, s_tup (a_cons (s_var (i := 1) rfl (vis_of rfl)) (a_cons (s_var (i := 2) rfl (vis_of rfl)) a_nil))⟩⟩ (i_rng1 rfl T.n_range (a_cons (s_var (i := 0) rfl (vis_of rfl)) a_nil))) a_nil)))))
theorem d_full_web (T : Txt K mg) (d_check_posts : DefV P w K mg base 1 "check_posts" 3 F_check_posts) (d_made_web : DefV P w K mg base 1 "made_web" 2 F_made_web) {f : Addr} {fd : FuncData} (F : Fun K "full_web" "full_web" st_full_web f fd) (hm : mg "full_web" = some (.ref f)) (b : Binds K fd ["n"] []) : DefV P w K mg base 2 "full_web" 1 F_full_web := def_pure (def_mk F hm b sc_full_web fun cdv A outer s H E hr => b_full_web T d_check_posts d_made_web hr)
/-! ### ladder_web -/
abbrev st_ladder_web : Stmt := top 19
def N_ladder_web : List Str := ["n", "rungs", "at"]
theorem nd_ladder_web : N_ladder_web.Nodup := by decide +kernel
theorem sc_ladder_web : FnScope N_ladder_web ["n"] (defScope st_ladder_web) := ⟨rfl, rfl, rfl, by decide +kernel, rfl, by decide +kernel, by decide +kernel⟩
def m_ladder_web : Sg → Hd → RS := mSeq (mDrop (mCall F_check_posts (mCons (mC (.int 1)) (mCons (mVar 0) (mCons (mBin oDiv (mC (.int 12)) (mC (.int 2))) mNil))))) (mSeq (mSet 1 (mLc [2] (mRng1 (mCons (mVar 0) mNil)) (cmN 2) mYes (mTup (mCons (mVar 2) (mCons (mBin oAdd (mVar 0) (mVar 2)) mNil))))) (mRet (mCall F_made_web (mCons (mBin oMul (mC (.int 2)) (mVar 0)) (mCons (mBin oAdd (mBin oAdd (mCall F_row_ties (mCons (mC (.int 0)) (mCons (mVar 0) mNil))) (mCall F_row_ties (mCons (mVar 0) (mCons (mVar 0) mNil)))) (mVar 1)) mNil)))))
def F_ladder_web : Fn := pureF (fnB 1 3 m_ladder_web)
theorem b_ladder_web (T : Txt K mg) (d_check_posts : DefV P w K mg base 1 "check_posts" 3 F_check_posts) (d_made_web : DefV P w K mg base 1 "made_web" 2 F_made_web) (d_row_ties : DefV P w K mg base 1 "row_ties" 2 F_row_ties) {f : Addr} {cdv : Value} {A : Around} {outer : List Env} {s : Shared} {H : Hp} {E : XK} (hr : Room 1 (A.deeper (PyProof.Rows.envOfC "ladder_web" (defScope st_ladder_web) s.heap.objs.size f (cdv)))) :
    SSs (cxOf (L2N.CX P w) P w K mg base N_ladder_web "ladder_web" (defScope st_ladder_web) f (cdv) A outer s H E) (fun cls d _ H => E cls d H) (defBody st_ladder_web) (m_ladder_web) :=
  ss_cons (s_expr (s_call (d_check_posts.mono (by decide)) hr tkX rfl (a_cons s_int (a_cons (s_var (i := 0) rfl (vis_of rfl)) (a_cons (s_op oDiv_ok (s_glI' rfl T.c_MOST_POSTS_makers) s_int) a_nil))))) (ss_cons (s_setLc (own := [("at", 2)]) ⟨rfl, nd_ladder_web, blkOk_by (by kernel_rfl), by decide, by intro _; rfl, fun _ _ _ _ _ => ⟨c_name (i := 2) nd_ladder_web rfl (loc_of rfl), ts_nil, s_tup (a_cons (s_var (i := 2) rfl (vis_of rfl)) (a_cons (s_op oAdd_ok (s_var (i := 0) rfl (vis_of rfl)) (s_var (i := 2) rfl (vis_of rfl))) a_nil))⟩⟩ (i_rng1 rfl T.n_range (a_cons (s_var (i := 0) rfl (vis_of rfl)) a_nil)) (i := 1) rfl rfl rfl) (ss_one (s_ret (s_call (d_made_web.mono (by decide)) hr tkX rfl (a_cons (s_op oMul_ok s_int (s_var (i := 0) rfl (vis_of rfl))) (a_cons (s_op oAdd_ok (s_op oAdd_ok (s_call (d_row_ties.mono (by decide)) hr tkX rfl (a_cons s_int (a_cons (s_var (i := 0) rfl (vis_of rfl)) a_nil))) (s_call (d_row_ties.mono (by decide)) hr tkX rfl (a_cons (s_var (i := 0) rfl (vis_of rfl)) (a_cons (s_var (i := 0) rfl (vis_of rfl)) a_nil)))) (s_var (i := 1) rfl (vis_of rfl))) a_nil))))))
theorem d_ladder_web (T : Txt K mg) (d_check_posts : DefV P w K mg base 1 "check_posts" 3 F_check_posts) (d_made_web : DefV P w K mg base 1 "made_web" 2 F_made_web) (d_row_ties : DefV P w K mg base 1 "row_ties" 2 F_row_ties) {f : Addr} {fd : FuncData} (F : Fun K "ladder_web" "ladder_web" st_ladder_web f fd) (hm : mg "ladder_web" = some (.ref f)) (b : Binds K fd ["n"] []) : DefV P w K mg base 2 "ladder_web" 1 F_ladder_web := def_pure (def_mk F hm b sc_ladder_web fun cdv A outer s H E hr => b_ladder_web T d_check_posts d_made_web d_row_ties hr)
/-! ### star_web -/
abbrev st_star_web : Stmt := top 15
def N_star_web : List Str := ["n"]
theorem nd_star_web : N_star_web.Nodup := by decide +kernel
theorem sc_star_web : FnScope N_star_web ["n"] (defScope st_star_web) := ⟨rfl, rfl, rfl, by decide +kernel, rfl, by decide +kernel, by decide +kernel⟩
def m_star_web : Sg → Hd → RS := mSeq (mDrop (mCall F_check_posts (mCons (mC (.int 0)) (mCons (mVar 0) (mCons (mBin oSub (mC (.int 12)) (mC (.int 1))) mNil))))) (mRet (mCall F_made_web (mCons (mBin oAdd (mVar 0) (mC (.int 1))) (mCons (mCall F_star_ties (mCons (mVar 0) mNil)) mNil))))
def F_star_web : Fn := pureF (fnB 1 1 m_star_web)
theorem b_star_web (T : Txt K mg) (d_check_posts : DefV P w K mg base 1 "check_posts" 3 F_check_posts) (d_made_web : DefV P w K mg base 1 "made_web" 2 F_made_web) (d_star_ties : DefV P w K mg base 1 "star_ties" 1 F_star_ties) {f : Addr} {cdv : Value} {A : Around} {outer : List Env} {s : Shared} {H : Hp} {E : XK} (hr : Room 1 (A.deeper (PyProof.Rows.envOfC "star_web" (defScope st_star_web) s.heap.objs.size f (cdv)))) :
    SSs (cxOf (L2N.CX P w) P w K mg base N_star_web "star_web" (defScope st_star_web) f (cdv) A outer s H E) (fun cls d _ H => E cls d H) (defBody st_star_web) (m_star_web) :=
  ss_cons (s_expr (s_call (d_check_posts.mono (by decide)) hr tkX rfl (a_cons s_int (a_cons (s_var (i := 0) rfl (vis_of rfl)) (a_cons (s_op oSub_ok (s_glI' rfl T.c_MOST_POSTS_makers) s_int) a_nil))))) (ss_one (s_ret (s_call (d_made_web.mono (by decide)) hr tkX rfl (a_cons (s_op oAdd_ok (s_var (i := 0) rfl (vis_of rfl)) s_int) (a_cons (s_call (d_star_ties.mono (by decide)) hr tkX rfl (a_cons (s_var (i := 0) rfl (vis_of rfl)) a_nil)) a_nil)))))
theorem d_star_web (T : Txt K mg) (d_check_posts : DefV P w K mg base 1 "check_posts" 3 F_check_posts) (d_made_web : DefV P w K mg base 1 "made_web" 2 F_made_web) (d_star_ties : DefV P w K mg base 1 "star_ties" 1 F_star_ties) {f : Addr} {fd : FuncData} (F : Fun K "star_web" "star_web" st_star_web f fd) (hm : mg "star_web" = some (.ref f)) (b : Binds K fd ["n"] []) : DefV P w K mg base 2 "star_web" 1 F_star_web := def_pure (def_mk F hm b sc_star_web fun cdv A outer s H E hr => b_star_web T d_check_posts d_made_web d_star_ties hr)
/-! ### fan_web -/
abbrev st_fan_web : Stmt := top 16
def N_fan_web : List Str := ["n"]
theorem nd_fan_web : N_fan_web.Nodup := by decide +kernel
theorem sc_fan_web : FnScope N_fan_web ["n"] (defScope st_fan_web) := ⟨rfl, rfl, rfl, by decide +kernel, rfl, by decide +kernel, by decide +kernel⟩
def m_fan_web : Sg → Hd → RS := mSeq (mDrop (mCall F_check_posts (mCons (mC (.int 1)) (mCons (mVar 0) (mCons (mBin oSub (mC (.int 12)) (mC (.int 1))) mNil))))) (mRet (mCall F_made_web (mCons (mBin oAdd (mVar 0) (mC (.int 1))) (mCons (mBin oAdd (mCall F_star_ties (mCons (mVar 0) mNil)) (mCall F_row_ties (mCons (mC (.int 1)) (mCons (mVar 0) mNil)))) mNil))))
def F_fan_web : Fn := pureF (fnB 1 1 m_fan_web)
theorem b_fan_web (T : Txt K mg) (d_check_posts : DefV P w K mg base 1 "check_posts" 3 F_check_posts) (d_made_web : DefV P w K mg base 1 "made_web" 2 F_made_web) (d_row_ties : DefV P w K mg base 1 "row_ties" 2 F_row_ties) (d_star_ties : DefV P w K mg base 1 "star_ties" 1 F_star_ties) {f : Addr} {cdv : Value} {A : Around} {outer : List Env} {s : Shared} {H : Hp} {E : XK} (hr : Room 1 (A.deeper (PyProof.Rows.envOfC "fan_web" (defScope st_fan_web) s.heap.objs.size f (cdv)))) :
    SSs (cxOf (L2N.CX P w) P w K mg base N_fan_web "fan_web" (defScope st_fan_web) f (cdv) A outer s H E) (fun cls d _ H => E cls d H) (defBody st_fan_web) (m_fan_web) :=
  ss_cons (s_expr (s_call (d_check_posts.mono (by decide)) hr tkX rfl (a_cons s_int (a_cons (s_var (i := 0) rfl (vis_of rfl)) (a_cons (s_op oSub_ok (s_glI' rfl T.c_MOST_POSTS_makers) s_int) a_nil))))) (ss_one (s_ret (s_call (d_made_web.mono (by decide)) hr tkX rfl (a_cons (s_op oAdd_ok (s_var (i := 0) rfl (vis_of rfl)) s_int) (a_cons (s_op oAdd_ok (s_call (d_star_ties.mono (by decide)) hr tkX rfl (a_cons (s_var (i := 0) rfl (vis_of rfl)) a_nil)) (s_call (d_row_ties.mono (by decide)) hr tkX rfl (a_cons s_int (a_cons (s_var (i := 0) rfl (vis_of rfl)) a_nil)))) a_nil)))))
theorem d_fan_web (T : Txt K mg) (d_check_posts : DefV P w K mg base 1 "check_posts" 3 F_check_posts) (d_made_web : DefV P w K mg base 1 "made_web" 2 F_made_web) (d_row_ties : DefV P w K mg base 1 "row_ties" 2 F_row_ties) (d_star_ties : DefV P w K mg base 1 "star_ties" 1 F_star_ties) {f : Addr} {fd : FuncData} (F : Fun K "fan_web" "fan_web" st_fan_web f fd) (hm : mg "fan_web" = some (.ref f)) (b : Binds K fd ["n"] []) : DefV P w K mg base 2 "fan_web" 1 F_fan_web := def_pure (def_mk F hm b sc_fan_web fun cdv A outer s H E hr => b_fan_web T d_check_posts d_made_web d_row_ties d_star_ties hr)
/-! ### _law_made -/
abbrev st__law_made : Stmt := top 42
def N__law_made : List Str := ["which", "one", "other", "e"]
theorem nd__law_made : N__law_made.Nodup := by decide +kernel
theorem sc__law_made : FnScope N__law_made ["which", "one", "other"] (defScope st__law_made) := ⟨rfl, rfl, rfl, by decide +kernel, rfl, by decide +kernel, by decide +kernel⟩
def m__law_made : Sg → Hd → RS := mTryW w__law_word (mSeq (mIfS (mTest (mBin oLt (mVar 0) (mC (.int 4)))) (mRet (mIf (mTest (mBin oEq (mVar 0) (mC (.int 0)))) (mCall F_row_web (mCons (mVar 1) mNil)) (mIf (mTest (mBin oEq (mVar 0) (mC (.int 1)))) (mCall F_ring_web (mCons (mVar 1) mNil)) (mIf (mTest (mBin oEq (mVar 0) (mC (.int 2)))) (mCall F_star_web (mCons (mVar 1) mNil)) (mCall F_fan_web (mCons (mVar 1) mNil)))))) mNext) (mSeq (mIfS (mTest (mBin oLt (mVar 0) (mC (.int 7)))) (mRet (mIf (mTest (mBin oEq (mVar 0) (mC (.int 4)))) (mCall F_wheel_web (mCons (mVar 1) mNil)) (mIf (mTest (mBin oEq (mVar 0) (mC (.int 5)))) (mCall F_full_web (mCons (mVar 1) mNil)) (mCall F_ladder_web (mCons (mVar 1) mNil))))) mNext) (mRet (mIf (mTest (mBin oEq (mVar 0) (mC (.int 7)))) (mCall F_grid_web (mCons (mVar 1) (mCons (mVar 2) mNil))) (mCall F_sides_web (mCons (mVar 1) (mCons (mVar 2) mNil)))))))
def F__law_made : Fn := pureF (fnB 3 4 m__law_made)
theorem b__law_made (T : Txt K mg) (d_grid_web : DefV P w K mg base 2 "grid_web" 2 F_grid_web) (d_sides_web : DefV P w K mg base 2 "sides_web" 2 F_sides_web) (d_row_web : DefV P w K mg base 2 "row_web" 1 F_row_web) (d_wheel_web : DefV P w K mg base 2 "wheel_web" 1 F_wheel_web) (d_ring_web : DefV P w K mg base 2 "ring_web" 1 F_ring_web) (d_full_web : DefV P w K mg base 2 "full_web" 1 F_full_web) (d_ladder_web : DefV P w K mg base 2 "ladder_web" 1 F_ladder_web) (d_star_web : DefV P w K mg base 2 "star_web" 1 F_star_web) (d_fan_web : DefV P w K mg base 2 "fan_web" 1 F_fan_web) {R : Addr} (hcR : mg "RoadError" = some (.ref R)) (hkW : ∀ f, mg "_law_word" = some (.ref f) → PySem.W.keepIn K (.ref f) = true) (hW : ∀ c z, w__law_word c = some z → PySem.W.exmOne K (excV mg c) (.ref R) = some true ∧ WordV P w K mg base 2 "_law_word" (excV mg c) z) {f : Addr} {cdv : Value} {A : Around} {outer : List Env} {s : Shared} {H : Hp} {E : XK} (hr : Room 3 (A.deeper (PyProof.Rows.envOfC "_law_made" (defScope st__law_made) s.heap.objs.size f (cdv)))) :
    SSs (cxOf (L2N.CX P w) P w K mg base N__law_made "_law_made" (defScope st__law_made) f (cdv) A outer s H E) (fun cls d _ H => E cls d H) (defBody st__law_made) (m__law_made) :=
  ss_one (s_tryW (k := 2) (i := 3) rfl rfl nd__law_made rfl rfl ⟨rfl, by decide, Or.inl hcR⟩ tkX hr rfl hkW (by decide) (by decide) (by decide) rfl (fun W pn xe tk' po => ss_cons (s_ifS (t_cmp (oLt_ok (ru64 hr)) (s_var (i := 0) rfl (vis_of rfl)) s_int (by rfl)) (ss_one (s_ret (s_if (t_cmp (oEq_ok (ru64 hr)) (s_var (i := 0) rfl (vis_of rfl)) s_int (by rfl)) (s_call (d_row_web.mono (by decide)) hr tk' rfl (a_cons (s_var (i := 1) rfl (vis_of rfl)) a_nil)) (s_if (t_cmp (oEq_ok (ru64 hr)) (s_var (i := 0) rfl (vis_of rfl)) s_int (by rfl)) (s_call (d_ring_web.mono (by decide)) hr tk' rfl (a_cons (s_var (i := 1) rfl (vis_of rfl)) a_nil)) (s_if (t_cmp (oEq_ok (ru64 hr)) (s_var (i := 0) rfl (vis_of rfl)) s_int (by rfl)) (s_call (d_star_web.mono (by decide)) hr tk' rfl (a_cons (s_var (i := 1) rfl (vis_of rfl)) a_nil)) (s_call (d_fan_web.mono (by decide)) hr tk' rfl (a_cons (s_var (i := 1) rfl (vis_of rfl)) a_nil))))))) ss_nil) (ss_cons (s_ifS (t_cmp (oLt_ok (ru64 hr)) (s_var (i := 0) rfl (vis_of rfl)) s_int (by rfl)) (ss_one (s_ret (s_if (t_cmp (oEq_ok (ru64 hr)) (s_var (i := 0) rfl (vis_of rfl)) s_int (by rfl)) (s_call (d_wheel_web.mono (by decide)) hr tk' rfl (a_cons (s_var (i := 1) rfl (vis_of rfl)) a_nil)) (s_if (t_cmp (oEq_ok (ru64 hr)) (s_var (i := 0) rfl (vis_of rfl)) s_int (by rfl)) (s_call (d_full_web.mono (by decide)) hr tk' rfl (a_cons (s_var (i := 1) rfl (vis_of rfl)) a_nil)) (s_call (d_ladder_web.mono (by decide)) hr tk' rfl (a_cons (s_var (i := 1) rfl (vis_of rfl)) a_nil)))))) ss_nil) (ss_one (s_ret (s_if (t_cmp (oEq_ok (ru64 hr)) (s_var (i := 0) rfl (vis_of rfl)) s_int (by rfl)) (s_call (d_grid_web.mono (by decide)) hr tk' rfl (a_cons (s_var (i := 1) rfl (vis_of rfl)) (a_cons (s_var (i := 2) rfl (vis_of rfl)) a_nil))) (s_call (d_sides_web.mono (by decide)) hr tk' rfl (a_cons (s_var (i := 1) rfl (vis_of rfl)) (a_cons (s_var (i := 2) rfl (vis_of rfl)) a_nil)))))))) hW)
theorem d__law_made (T : Txt K mg) (d_grid_web : DefV P w K mg base 2 "grid_web" 2 F_grid_web) (d_sides_web : DefV P w K mg base 2 "sides_web" 2 F_sides_web) (d_row_web : DefV P w K mg base 2 "row_web" 1 F_row_web) (d_wheel_web : DefV P w K mg base 2 "wheel_web" 1 F_wheel_web) (d_ring_web : DefV P w K mg base 2 "ring_web" 1 F_ring_web) (d_full_web : DefV P w K mg base 2 "full_web" 1 F_full_web) (d_ladder_web : DefV P w K mg base 2 "ladder_web" 1 F_ladder_web) (d_star_web : DefV P w K mg base 2 "star_web" 1 F_star_web) (d_fan_web : DefV P w K mg base 2 "fan_web" 1 F_fan_web) {R : Addr} (hcR : mg "RoadError" = some (.ref R)) (hkW : ∀ f, mg "_law_word" = some (.ref f) → PySem.W.keepIn K (.ref f) = true) (hW : ∀ c z, w__law_word c = some z → PySem.W.exmOne K (excV mg c) (.ref R) = some true ∧ WordV P w K mg base 2 "_law_word" (excV mg c) z) {f : Addr} {fd : FuncData} (F : Fun K "_law_made" "_law_made" st__law_made f fd) (hm : mg "_law_made" = some (.ref f)) (b : Binds K fd ["which", "one", "other"] []) : DefV P w K mg base 4 "_law_made" 3 F__law_made := def_pure (def_mk F hm b sc__law_made fun cdv A outer s H E hr => b__law_made T d_grid_web d_sides_web d_row_web d_wheel_web d_ring_web d_full_web d_ladder_web d_star_web d_fan_web hcR hkW hW hr)
/-! ### _law_bounds -/
abbrev st__law_bounds : Stmt := top 43
def N__law_bounds : List Str := ["which", "one", "other", "least", "most"]
theorem nd__law_bounds : N__law_bounds.Nodup := by decide +kernel
theorem sc__law_bounds : FnScope N__law_bounds ["which", "one", "other"] (defScope st__law_bounds) := ⟨rfl, rfl, rfl, by decide +kernel, rfl, by decide +kernel, by decide +kernel⟩
def m__law_bounds : Sg → Hd → RS := mSeq (mIfS (mTest (mBin oLt (mVar 0) (mC (.int 7)))) (mSeq (mAsg (mBin oIx (mLst (mCons (mTup (mCons (mC (.int 1)) (mCons (mC (.int 12)) mNil))) (mCons (mTup (mCons (mC (.int 3)) (mCons (mC (.int 12)) mNil))) (mCons (mTup (mCons (mC (.int 0)) (mCons (mC (.int 11)) mNil))) (mCons (mTup (mCons (mC (.int 1)) (mCons (mC (.int 11)) mNil))) (mCons (mTup (mCons (mC (.int 3)) (mCons (mC (.int 11)) mNil))) (mCons (mTup (mCons (mC (.int 1)) (mCons (mC (.int 12)) mNil))) (mCons (mTup (mCons (mC (.int 1)) (mCons (mC (.int 6)) mNil))) mNil)))))))) (mVar 0)) (gmTup 2 (gmCons (gmN 3) (gmCons (gmN 4) gmNil)))) (mRet (mChain oLe oLe (mVar 3) (mVar 1) (mVar 4)))) mNext) (mRet (mAndV (mBin oGt (mVar 1) (mC (.int 0))) (mAndV (mBin oGt (mVar 2) (mC (.int 0))) (mBin oLe (mIf (mTest (mBin oEq (mVar 0) (mC (.int 7)))) (mBin oMul (mVar 1) (mVar 2)) (mBin oAdd (mVar 1) (mVar 2))) (mC (.int 12))))))
def F__law_bounds : Fn := pureF (fnB 3 5 m__law_bounds)
theorem b__law_bounds (T : Txt K mg) {f : Addr} {cdv : Value} {A : Around} {outer : List Env} {s : Shared} {H : Hp} {E : XK} (hr : Room 0 (A.deeper (PyProof.Rows.envOfC "_law_bounds" (defScope st__law_bounds) s.heap.objs.size f (cdv)))) :
    SSs (cxOf (L2N.CX P w) P w K mg base N__law_bounds "_law_bounds" (defScope st__law_bounds) f (cdv) A outer s H E) (fun cls d _ H => E cls d H) (defBody st__law_bounds) (m__law_bounds) :=
  ss_cons (s_ifS (t_cmp (oLt_ok (ru64 hr)) (s_var (i := 0) rfl (vis_of rfl)) s_int (by rfl)) (ss_cons (s_asg (s_ix (s_lst (a_cons (s_tup (a_cons s_int (a_cons s_int a_nil))) (a_cons (s_tup (a_cons s_int (a_cons s_int a_nil))) (a_cons (s_tup (a_cons s_int (a_cons s_int a_nil))) (a_cons (s_tup (a_cons s_int (a_cons s_int a_nil))) (a_cons (s_tup (a_cons s_int (a_cons s_int a_nil))) (a_cons (s_tup (a_cons s_int (a_cons s_int a_nil))) (a_cons (s_tup (a_cons s_int (a_cons s_int a_nil))) a_nil)))))))) (s_var (i := 0) rfl (vis_of rfl))) (g_tup rfl (g_cons (g_name (i := 3) nd__law_bounds rfl (loc_of rfl)) (g_cons (g_name (i := 4) nd__law_bounds rfl (loc_of rfl)) g_nil)))) (ss_one (s_ret (s_chain (oLe_ok (ru64 hr)) (oLe_ok (ru64 hr)) (s_var (i := 3) rfl (vis_of rfl)) (s_var (i := 1) rfl (vis_of rfl)) (s_var (i := 4) rfl (vis_of rfl)))))) ss_nil) (ss_one (s_ret (s_and (s_cmp (oGt_ok (ru64 hr)) (s_var (i := 1) rfl (vis_of rfl)) s_int (by rfl)) (s_and (s_cmp (oGt_ok (ru64 hr)) (s_var (i := 2) rfl (vis_of rfl)) s_int (by rfl)) (s_one (s_cmp (oLe_ok (ru64 hr)) (s_if (t_cmp (oEq_ok (ru64 hr)) (s_var (i := 0) rfl (vis_of rfl)) s_int (by rfl)) (s_op oMul_ok (s_var (i := 1) rfl (vis_of rfl)) (s_var (i := 2) rfl (vis_of rfl))) (s_op oAdd_ok (s_var (i := 1) rfl (vis_of rfl)) (s_var (i := 2) rfl (vis_of rfl)))) s_int (by rfl)))))))
theorem d__law_bounds (T : Txt K mg) {f : Addr} {fd : FuncData} (F : Fun K "_law_bounds" "_law_bounds" st__law_bounds f fd) (hm : mg "_law_bounds" = some (.ref f)) (b : Binds K fd ["which", "one", "other"] []) : DefV P w K mg base 1 "_law_bounds" 3 F__law_bounds := def_pure (def_mk F hm b sc__law_bounds fun cdv A outer s H E hr => b__law_bounds T hr)
/-! ### is_one_group -/
abbrev st_is_one_group : Stmt := top 31
def N_is_one_group : List Str := ["groups", "least"]
theorem nd_is_one_group : N_is_one_group.Nodup := by decide +kernel
theorem sc_is_one_group : FnScope N_is_one_group ["groups"] (defScope st_is_one_group) := ⟨rfl, rfl, rfl, by decide +kernel, rfl, by decide +kernel, by decide +kernel⟩
def m_is_one_group : Sg → Hd → RS := mRet (mQ true [1] (mIt (mVar 0)) (cmN 1) mYes (mBin oEq (mVar 1) (mC (.int 0))))
def F_is_one_group : Fn := pureF (fnB 1 2 m_is_one_group)
theorem b_is_one_group (T : Txt K mg) {f : Addr} {c Pt : Addr} (TB : TabK K base mg c Pt) {A : Around} {outer : List Env} {s : Shared} {H : Hp} {E : XK} (hr : Room 1 (A.deeper (PyProof.Rows.envOfC "is_one_group" (defScope st_is_one_group) s.heap.objs.size f (.ref c)))) :
    SSs (cxOf (L2N.CX P w) P w K mg base N_is_one_group "is_one_group" (defScope st_is_one_group) f (.ref c) A outer s H E) (fun cls d _ H => E cls d H) (defBody st_is_one_group) (m_is_one_group) :=
  ss_one (s_ret (s_all (own := [("least", 1)]) ⟨rfl, nd_is_one_group, hr, TB, rfl, genOk_by (by kernel_rfl), by decide, by intro _; rfl, fun _ _ _ _ _ _ hrg => ⟨c_name (i := 1) nd_is_one_group rfl (loc_of rfl), ts_nil, s_cmp (oEq_ok (ru64 hrg)) (s_var (i := 1) rfl (vis_of rfl)) s_int (by rfl)⟩⟩ (i_seq (s_var (i := 0) rfl (vis_of rfl))) rfl T.n_all bt_all))
theorem d_is_one_group (T : Txt K mg) {f : Addr} {fd : FuncData} {c Pt : Addr} (TB : TabK K base mg c Pt) (F : FunC K "is_one_group" st_is_one_group f fd c) (hm : mg "is_one_group" = some (.ref f)) (b : Binds K fd ["groups"] []) : DefV P w K mg base 2 "is_one_group" 1 F_is_one_group := def_pure (def_mkC F hm b sc_is_one_group fun A outer s H E hr => b_is_one_group T TB hr)
/-! ### is_integer -/
abbrev st_is_integer : Stmt := top 23
def N_is_integer : List Str := ["value"]
theorem nd_is_integer : N_is_integer.Nodup := by decide +kernel
theorem sc_is_integer : FnScope N_is_integer ["value"] (defScope st_is_integer) := ⟨rfl, rfl, rfl, by decide +kernel, rfl, by decide +kernel, by decide +kernel⟩
def m_is_integer : Sg → Hd → RS := mRet (mAndV (mIsi "int" (mVar 0)) (mNotV (mIsi "bool" (mVar 0))))
def F_is_integer : Fn := pureF (fnB 1 1 m_is_integer)
theorem b_is_integer (T : Txt K mg) {f : Addr} {cdv : Value} {A : Around} {outer : List Env} {s : Shared} {H : Hp} {E : XK} (hr : Room 0 (A.deeper (PyProof.Rows.envOfC "is_integer" (defScope st_is_integer) s.heap.objs.size f (cdv)))) :
    SSs (cxOf (L2N.CX P w) P w K mg base N_is_integer "is_integer" (defScope st_is_integer) f (cdv) A outer s H E) (fun cls d _ H => E cls d H) (defBody st_is_integer) (m_is_integer) :=
  ss_one (s_ret (s_and (s_isi (s_var (i := 0) rfl (vis_of rfl)) rfl T.n_isinstance rfl T.n_int bt_int (by decide)) (s_one (s_not (s_isi (s_var (i := 0) rfl (vis_of rfl)) rfl T.n_isinstance rfl T.n_bool bt_bool (by decide))))))
theorem d_is_integer (T : Txt K mg) {f : Addr} {fd : FuncData} (F : Fun K "is_integer" "is_integer" st_is_integer f fd) (hm : mg "is_integer" = some (.ref f)) (b : Binds K fd ["value"] []) : DefV P w K mg base 1 "is_integer" 1 F_is_integer := def_pure (def_mk F hm b sc_is_integer fun cdv A outer s H E hr => b_is_integer T hr)
/-! ### is_number -/
abbrev st_is_number : Stmt := top 24
def N_is_number : List Str := ["value", "least", "most"]
theorem nd_is_number : N_is_number.Nodup := by decide +kernel
theorem sc_is_number : FnScope N_is_number ["value", "least", "most"] (defScope st_is_number) := ⟨rfl, rfl, rfl, by decide +kernel, rfl, by decide +kernel, by decide +kernel⟩
def m_is_number : Sg → Hd → RS := mRet (mAndV (mCall F_is_integer (mCons (mVar 0) mNil)) (mChain oLe oLe (mVar 1) (mVar 0) (mVar 2)))
def F_is_number : Fn := pureF (fnB 3 3 m_is_number)
theorem b_is_number (T : Txt K mg) (d_is_integer : DefV P w K mg base 1 "is_integer" 1 F_is_integer) {f : Addr} {cdv : Value} {A : Around} {outer : List Env} {s : Shared} {H : Hp} {E : XK} (hr : Room 1 (A.deeper (PyProof.Rows.envOfC "is_number" (defScope st_is_number) s.heap.objs.size f (cdv)))) :
    SSs (cxOf (L2N.CX P w) P w K mg base N_is_number "is_number" (defScope st_is_number) f (cdv) A outer s H E) (fun cls d _ H => E cls d H) (defBody st_is_number) (m_is_number) :=
  ss_one (s_ret (s_and (s_call (d_is_integer.mono (by decide)) hr tkX rfl (a_cons (s_var (i := 0) rfl (vis_of rfl)) a_nil)) (s_one (s_chain (oLe_ok (ru64 hr)) (oLe_ok (ru64 hr)) (s_var (i := 1) rfl (vis_of rfl)) (s_var (i := 0) rfl (vis_of rfl)) (s_var (i := 2) rfl (vis_of rfl))))))
theorem d_is_number (T : Txt K mg) (d_is_integer : DefV P w K mg base 1 "is_integer" 1 F_is_integer) {f : Addr} {fd : FuncData} (F : Fun K "is_number" "is_number" st_is_number f fd) (hm : mg "is_number" = some (.ref f)) (b : Binds K fd ["value", "least", "most"] []) : DefV P w K mg base 2 "is_number" 3 F_is_number := def_pure (def_mk F hm b sc_is_number fun cdv A outer s H E hr => b_is_number T d_is_integer hr)
/-! ### check_many -/
abbrev st_check_many : Stmt := top 28
def N_check_many : List Str := ["many"]
theorem nd_check_many : N_check_many.Nodup := by decide +kernel
theorem sc_check_many : FnScope N_check_many ["many"] (defScope st_check_many) := ⟨rfl, rfl, rfl, by decide +kernel, rfl, by decide +kernel, by decide +kernel⟩
def m_check_many : Sg → Hd → RS := mIfS (mNot (mTru (mCall F_is_number (mCons (mVar 0) (mCons (mC (.int 0)) (mCons (mC (.int 200)) mNil)))))) (mRaise "OutOfRange") mNext
def F_check_many : Fn := pureF (fnB 1 1 m_check_many)
theorem b_check_many (T : Txt K mg) (d_is_number : DefV P w K mg base 2 "is_number" 3 F_is_number) {f : Addr} {cdv : Value} {A : Around} {outer : List Env} {s : Shared} {H : Hp} {E : XK} (hr : Room 2 (A.deeper (PyProof.Rows.envOfC "check_many" (defScope st_check_many) s.heap.objs.size f (cdv)))) :
    SSs (cxOf (L2N.CX P w) P w K mg base N_check_many "check_many" (defScope st_check_many) f (cdv) A outer s H E) (fun cls d _ H => E cls d H) (defBody st_check_many) (m_check_many) :=
  ss_one (s_ifS (t_not (t_tru (s_call (d_is_number.mono (by decide)) hr tkX rfl (a_cons (s_var (i := 0) rfl (vis_of rfl)) (a_cons s_int (a_cons (s_glI' rfl T.c_MOST_THINGS) a_nil)))))) (ss_one (s_raiseT rfl tkX T.e_OutOfRange rfl)) ss_nil)
theorem d_check_many (T : Txt K mg) (d_is_number : DefV P w K mg base 2 "is_number" 3 F_is_number) {f : Addr} {fd : FuncData} (F : Fun K "check_many" "check_many" st_check_many f fd) (hm : mg "check_many" = some (.ref f)) (b : Binds K fd ["many"] []) : DefV P w K mg base 3 "check_many" 1 F_check_many := def_pure (def_mk F hm b sc_check_many fun cdv A outer s H E hr => b_check_many T d_is_number hr)
/-! ### joined_by -/
abbrev st_joined_by : Stmt := top 29
def N_joined_by : List Str := ["groups", "one", "other", "least", "gone", "own"]
theorem nd_joined_by : N_joined_by.Nodup := by decide +kernel
theorem sc_joined_by : FnScope N_joined_by ["groups", "one", "other"] (defScope st_joined_by) := ⟨rfl, rfl, rfl, by decide +kernel, rfl, by decide +kernel, by decide +kernel⟩
def m_joined_by : Sg → Hd → RS := mSeq (mAsg (mCall fSorted (mCons (mLst (mCons (mBin oIx (mVar 0) (mVar 1)) (mCons (mBin oIx (mVar 0) (mVar 2)) mNil))) mNil)) (gmTup 2 (gmCons (gmN 3) (gmCons (gmN 4) gmNil)))) (mRet (mLc [5] (mIt (mVar 0)) (cmN 5) mYes (mIf (mTest (mBin oEq (mVar 5) (mVar 4))) (mVar 3) (mVar 5))))
def F_joined_by : Fn := pureF (fnB 3 6 m_joined_by)
theorem b_joined_by (T : Txt K mg) {f : Addr} {cdv : Value} {A : Around} {outer : List Env} {s : Shared} {H : Hp} {E : XK} (hr : Room 0 (A.deeper (PyProof.Rows.envOfC "joined_by" (defScope st_joined_by) s.heap.objs.size f (cdv)))) :
    SSs (cxOf (L2N.CX P w) P w K mg base N_joined_by "joined_by" (defScope st_joined_by) f (cdv) A outer s H E) (fun cls d _ H => E cls d H) (defBody st_joined_by) (m_joined_by) :=
  ss_cons (s_asg (s_callB (fSorted_ok (ru80 hr)) rfl T.n_sorted bt_sorted (a_cons (s_lst (a_cons (s_ix (s_var (i := 0) rfl (vis_of rfl)) (s_var (i := 1) rfl (vis_of rfl))) (a_cons (s_ix (s_var (i := 0) rfl (vis_of rfl)) (s_var (i := 2) rfl (vis_of rfl))) a_nil))) a_nil)) (g_tup rfl (g_cons (g_name (i := 3) nd_joined_by rfl (loc_of rfl)) (g_cons (g_name (i := 4) nd_joined_by rfl (loc_of rfl)) g_nil)))) (ss_one (s_ret (s_lc (own := [("own", 5)]) ⟨rfl, nd_joined_by, blkOk_by (by kernel_rfl), by decide, by intro _; rfl, fun _ _ _ _ _ => ⟨c_name (i := 5) nd_joined_by rfl (loc_of rfl), ts_nil, s_if (t_cmp (oEq_ok (ru64 hr)) (s_var (i := 5) rfl (vis_of rfl)) (s_var (i := 4) rfl (vis_of rfl)) (by rfl)) (s_var (i := 3) rfl (vis_of rfl)) (s_var (i := 5) rfl (vis_of rfl))⟩⟩ (i_seq (s_var (i := 0) rfl (vis_of rfl))))))
theorem d_joined_by (T : Txt K mg) {f : Addr} {fd : FuncData} (F : Fun K "joined_by" "joined_by" st_joined_by f fd) (hm : mg "joined_by" = some (.ref f)) (b : Binds K fd ["groups", "one", "other"] []) : DefV P w K mg base 1 "joined_by" 3 F_joined_by := def_pure (def_mk F hm b sc_joined_by fun cdv A outer s H E hr => b_joined_by T hr)
/-! ### groups_of -/
abbrev st_groups_of : Stmt := top 30
def N_groups_of : List Str := ["many", "pairs", "pair", "found", "one", "other", "thing"]
theorem nd_groups_of : N_groups_of.Nodup := by decide +kernel
theorem sc_groups_of : FnScope N_groups_of ["many", "pairs"] (defScope st_groups_of) := ⟨rfl, rfl, rfl, by decide +kernel, rfl, by decide +kernel, by decide +kernel⟩
def mb_groups_of_0 : Sg → Hd → RS := mIfS (mNot (mTru (mQ true [6] (mIt (mVar 2)) (cmN 6) mYes (mAndV (mCall F_is_integer (mCons (mVar 6) mNil)) (mChain oLe oLt (mC (.int 0)) (mVar 6) (mVar 0)))))) (mRaise "NotThere") mNext
def mb_groups_of_1 : Sg → Hd → RS := mSet 3 (mCall F_joined_by (mCons (mVar 3) (mCons (mVar 4) (mCons (mVar 5) mNil))))
def m_groups_of : Sg → Hd → RS := mSeq (mDrop (mCall F_check_many (mCons (mVar 0) mNil))) (mSeq (mFor (mIt (mVar 1)) (gmN 2) (mb_groups_of_0)) (mSeq (mSet 3 (mLRg (mRg1 (mVar 0)))) (mSeq (mFor (mIt (mVar 1)) (gmTup 2 (gmCons (gmN 4) (gmCons (gmN 5) gmNil))) (mb_groups_of_1)) (mRet (mCall fTuple (mCons (mVar 3) mNil))))))
def F_groups_of : Fn := pureF (fnB 2 7 m_groups_of)
theorem b_groups_of (T : Txt K mg) (d_is_integer : DefV P w K mg base 1 "is_integer" 1 F_is_integer) (d_check_many : DefV P w K mg base 3 "check_many" 1 F_check_many) (d_joined_by : DefV P w K mg base 1 "joined_by" 3 F_joined_by) {f : Addr} {c Pt : Addr} (TB : TabK K base mg c Pt) {A : Around} {outer : List Env} {s : Shared} {H : Hp} {E : XK} (hr : Room 3 (A.deeper (PyProof.Rows.envOfC "groups_of" (defScope st_groups_of) s.heap.objs.size f (.ref c)))) :
    SSs (cxOf (L2N.CX P w) P w K mg base N_groups_of "groups_of" (defScope st_groups_of) f (.ref c) A outer s H E) (fun cls d _ H => E cls d H) (defBody st_groups_of) (m_groups_of) :=
  ss_cons (s_expr (s_call (d_check_many.mono (by decide)) hr tkX rfl (a_cons (s_var (i := 0) rfl (vis_of rfl)) a_nil))) (ss_cons (s_for pown rfl (i_seq (s_var (i := 1) rfl (vis_of rfl))) (g_name (i := 2) nd_groups_of rfl (loc_of rfl)) (ss_one (s_ifS (t_not (t_tru (s_all (own := [("thing", 6)]) ⟨rfl, nd_groups_of, hr, TB, rfl, genOk_by (by kernel_rfl), by decide, by intro _; rfl, fun _ _ _ _ _ _ hrg => ⟨c_name (i := 6) nd_groups_of rfl (loc_of rfl), ts_nil, s_and (s_call (d_is_integer.mono (by decide)) hrg tk0 rfl (a_cons (s_var (i := 6) rfl (vis_of rfl)) a_nil)) (s_one (s_chain (oLe_ok (ru64 hrg)) (oLt_ok (ru64 hrg)) s_int (s_var (i := 6) rfl (vis_of rfl)) (s_var (i := 0) rfl (vis_of rfl))))⟩⟩ (i_seq (s_var (i := 2) rfl (vis_of rfl))) rfl T.n_all bt_all))) (ss_one (s_raiseT rfl tkX T.e_NotThere rfl)) ss_nil))) (ss_cons (s_set (i := 3) nd_groups_of rfl (loc_of rfl) (s_listRg rfl rfl T.n_list (rg_1 rfl T.n_range (s_var (i := 0) rfl (vis_of rfl))))) (ss_cons (s_for pown rfl (i_seq (s_var (i := 1) rfl (vis_of rfl))) (g_tup rfl (g_cons (g_name (i := 4) nd_groups_of rfl (loc_of rfl)) (g_cons (g_name (i := 5) nd_groups_of rfl (loc_of rfl)) g_nil))) (ss_one (s_set (i := 3) nd_groups_of rfl (loc_of rfl) (s_call (d_joined_by.mono (by decide)) hr tkX rfl (a_cons (s_var (i := 3) rfl (vis_of rfl)) (a_cons (s_var (i := 4) rfl (vis_of rfl)) (a_cons (s_var (i := 5) rfl (vis_of rfl)) a_nil))))))) (ss_one (s_ret (s_callTy fTuple_ok rfl T.n_tuple bt_tuple (a_cons (s_var (i := 3) rfl (vis_of rfl)) a_nil)))))))
theorem d_groups_of (T : Txt K mg) (d_is_integer : DefV P w K mg base 1 "is_integer" 1 F_is_integer) (d_check_many : DefV P w K mg base 3 "check_many" 1 F_check_many) (d_joined_by : DefV P w K mg base 1 "joined_by" 3 F_joined_by) {f : Addr} {fd : FuncData} {c Pt : Addr} (TB : TabK K base mg c Pt) (F : FunC K "groups_of" st_groups_of f fd c) (hm : mg "groups_of" = some (.ref f)) (b : Binds K fd ["many", "pairs"] []) : DefV P w K mg base 4 "groups_of" 2 F_groups_of := def_pure (def_mkC F hm b sc_groups_of fun A outer s H E hr => b_groups_of T d_is_integer d_check_many d_joined_by TB hr)
/-! ### pieces_of -/
abbrev st_pieces_of : Stmt := top 35
def N_pieces_of : List Str := ["posts", "ties"]
theorem nd_pieces_of : N_pieces_of.Nodup := by decide +kernel
theorem sc_pieces_of : FnScope N_pieces_of ["posts", "ties"] (defScope st_pieces_of) := ⟨rfl, rfl, rfl, by decide +kernel, rfl, by decide +kernel, by decide +kernel⟩
def m_pieces_of : Sg → Hd → RS := mRet (mCall F_groups_of (mCons (mVar 0) (mCons (mVar 1) mNil)))
def F_pieces_of : Fn := pureF (fnB 2 2 m_pieces_of)
theorem b_pieces_of (T : Txt K mg) (d_groups_of : DefV P w K mg base 4 "groups_of" 2 F_groups_of) {f : Addr} {cdv : Value} {A : Around} {outer : List Env} {s : Shared} {H : Hp} {E : XK} (hr : Room 4 (A.deeper (PyProof.Rows.envOfC "pieces_of" (defScope st_pieces_of) s.heap.objs.size f (cdv)))) :
    SSs (cxOf (L2N.CX P w) P w K mg base N_pieces_of "pieces_of" (defScope st_pieces_of) f (cdv) A outer s H E) (fun cls d _ H => E cls d H) (defBody st_pieces_of) (m_pieces_of) :=
  ss_one (s_ret (s_call (d_groups_of.mono (by decide)) hr tkX rfl (a_cons (s_var (i := 0) rfl (vis_of rfl)) (a_cons (s_var (i := 1) rfl (vis_of rfl)) a_nil))))
theorem d_pieces_of (T : Txt K mg) (d_groups_of : DefV P w K mg base 4 "groups_of" 2 F_groups_of) {f : Addr} {fd : FuncData} (F : Fun K "pieces_of" "pieces_of" st_pieces_of f fd) (hm : mg "pieces_of" = some (.ref f)) (b : Binds K fd ["posts", "ties"] []) : DefV P w K mg base 5 "pieces_of" 2 F_pieces_of := def_pure (def_mk F hm b sc_pieces_of fun cdv A outer s H E hr => b_pieces_of T d_groups_of hr)
/-! ### is_ascending -/
abbrev st_is_ascending : Stmt := top 25
def N_is_ascending : List Str := ["values", "at"]
theorem nd_is_ascending : N_is_ascending.Nodup := by decide +kernel
theorem sc_is_ascending : FnScope N_is_ascending ["values"] (defScope st_is_ascending) := ⟨rfl, rfl, rfl, by decide +kernel, rfl, by decide +kernel, by decide +kernel⟩
def m_is_ascending : Sg → Hd → RS := mRet (mQ true [1] (mRng1 (mCons (mBin oSub (mCall fLen (mCons (mVar 0) mNil)) (mC (.int 1))) mNil)) (cmN 1) mYes (mBin oLt (mBin oIx (mVar 0) (mVar 1)) (mBin oIx (mVar 0) (mBin oAdd (mVar 1) (mC (.int 1))))))
def F_is_ascending : Fn := pureF (fnB 1 2 m_is_ascending)
theorem b_is_ascending (T : Txt K mg) {f : Addr} {c Pt : Addr} (TB : TabK K base mg c Pt) {A : Around} {outer : List Env} {s : Shared} {H : Hp} {E : XK} (hr : Room 1 (A.deeper (PyProof.Rows.envOfC "is_ascending" (defScope st_is_ascending) s.heap.objs.size f (.ref c)))) :
    SSs (cxOf (L2N.CX P w) P w K mg base N_is_ascending "is_ascending" (defScope st_is_ascending) f (.ref c) A outer s H E) (fun cls d _ H => E cls d H) (defBody st_is_ascending) (m_is_ascending) :=
  ss_one (s_ret (s_all (own := [("at", 1)]) ⟨rfl, nd_is_ascending, hr, TB, rfl, genOk_by (by kernel_rfl), by decide, by intro _; rfl, fun _ _ _ _ _ _ hrg => ⟨c_name (i := 1) nd_is_ascending rfl (loc_of rfl), ts_nil, s_cmp (oLt_ok (ru64 hrg)) (s_ix (s_var (i := 0) rfl (vis_of rfl)) (s_var (i := 1) rfl (vis_of rfl))) (s_ix (s_var (i := 0) rfl (vis_of rfl)) (s_op oAdd_ok (s_var (i := 1) rfl (vis_of rfl)) s_int)) (by rfl)⟩⟩ (i_rng1 rfl T.n_range (a_cons (s_op oSub_ok (s_callB fLen_ok rfl T.n_len bt_len (a_cons (s_var (i := 0) rfl (vis_of rfl)) a_nil)) s_int) a_nil)) rfl T.n_all bt_all))
theorem d_is_ascending (T : Txt K mg) {f : Addr} {fd : FuncData} {c Pt : Addr} (TB : TabK K base mg c Pt) (F : FunC K "is_ascending" st_is_ascending f fd c) (hm : mg "is_ascending" = some (.ref f)) (b : Binds K fd ["values"] []) : DefV P w K mg base 2 "is_ascending" 1 F_is_ascending := def_pure (def_mkC F hm b sc_is_ascending fun A outer s H E hr => b_is_ascending T TB hr)
/-! ### is_tie -/
abbrev st_is_tie : Stmt := top 34
def N_is_tie : List Str := ["posts", "value"]
theorem nd_is_tie : N_is_tie.Nodup := by decide +kernel
theorem sc_is_tie : FnScope N_is_tie ["posts", "value"] (defScope st_is_tie) := ⟨rfl, rfl, rfl, by decide +kernel, rfl, by decide +kernel, by decide +kernel⟩
def m_is_tie : Sg → Hd → RS := mSeq (mIfS (mOr (mNot (mTru (mIsi "tuple" (mVar 1)))) (mTest (mBin oNe (mCall fLen (mCons (mVar 1) mNil)) (mC (.int 2))))) (mRet (mC (.bl false))) mNext) (mRet (mAndV (mCall F_is_number (mCons (mBin oIx (mVar 1) (mC (.int 1))) (mCons (mC (.int 0)) (mCons (mBin oSub (mVar 0) (mC (.int 1))) mNil)))) (mCall F_is_number (mCons (mBin oIx (mVar 1) (mC (.int 0))) (mCons (mC (.int 0)) (mCons (mBin oSub (mBin oIx (mVar 1) (mC (.int 1))) (mC (.int 1))) mNil))))))
def F_is_tie : Fn := pureF (fnB 2 2 m_is_tie)
theorem b_is_tie (T : Txt K mg) (d_is_number : DefV P w K mg base 2 "is_number" 3 F_is_number) {f : Addr} {cdv : Value} {A : Around} {outer : List Env} {s : Shared} {H : Hp} {E : XK} (hr : Room 2 (A.deeper (PyProof.Rows.envOfC "is_tie" (defScope st_is_tie) s.heap.objs.size f (cdv)))) :
    SSs (cxOf (L2N.CX P w) P w K mg base N_is_tie "is_tie" (defScope st_is_tie) f (cdv) A outer s H E) (fun cls d _ H => E cls d H) (defBody st_is_tie) (m_is_tie) :=
  ss_cons (s_ifS (t_w (w_or (t_not (t_tru (s_isi (s_var (i := 1) rfl (vis_of rfl)) rfl T.n_isinstance rfl T.n_tuple bt_tuple (by decide)))) (w_or1 (t_cmp (oNe_ok (ru64 hr)) (s_callB fLen_ok rfl T.n_len bt_len (a_cons (s_var (i := 1) rfl (vis_of rfl)) a_nil)) s_int (by rfl))))) (ss_one (s_ret s_bl)) ss_nil) (ss_one (s_ret (s_and (s_call (d_is_number.mono (by decide)) hr tkX rfl (a_cons (s_ix (s_var (i := 1) rfl (vis_of rfl)) s_int) (a_cons s_int (a_cons (s_op oSub_ok (s_var (i := 0) rfl (vis_of rfl)) s_int) a_nil)))) (s_one (s_call (d_is_number.mono (by decide)) hr tkX rfl (a_cons (s_ix (s_var (i := 1) rfl (vis_of rfl)) s_int) (a_cons s_int (a_cons (s_op oSub_ok (s_ix (s_var (i := 1) rfl (vis_of rfl)) s_int) s_int) a_nil))))))))
theorem d_is_tie (T : Txt K mg) (d_is_number : DefV P w K mg base 2 "is_number" 3 F_is_number) {f : Addr} {fd : FuncData} (F : Fun K "is_tie" "is_tie" st_is_tie f fd) (hm : mg "is_tie" = some (.ref f)) (b : Binds K fd ["posts", "value"] []) : DefV P w K mg base 3 "is_tie" 2 F_is_tie := def_pure (def_mk F hm b sc_is_tie fun cdv A outer s H E hr => b_is_tie T d_is_number hr)
/-! ### is_web -/
abbrev st_is_web : Stmt := top 36
def N_is_web : List Str := ["value", "posts", "ties", "tie"]
theorem nd_is_web : N_is_web.Nodup := by decide +kernel
theorem sc_is_web : FnScope N_is_web ["value"] (defScope st_is_web) := ⟨rfl, rfl, rfl, by decide +kernel, rfl, by decide +kernel, by decide +kernel⟩
def m_is_web : Sg → Hd → RS := mSeq (mIfS (mOr (mNot (mTru (mIsi "tuple" (mVar 0)))) (mOr (mTest (mBin oNe (mCall fLen (mCons (mVar 0) mNil)) (mC (.int 2)))) (mNot (mTru (mCall F_is_number (mCons (mBin oIx (mVar 0) (mC (.int 0))) (mCons (mC (.int 1)) (mCons (mC (.int 12)) mNil)))))))) (mRet (mC (.bl false))) mNext) (mSeq (mAsg (mVar 0) (gmTup 2 (gmCons (gmN 1) (gmCons (gmN 2) gmNil)))) (mSeq (mIfS (mOr (mNot (mTru (mIsi "tuple" (mVar 2)))) (mOr (mNot (mTru (mQ true [3] (mIt (mVar 2)) (cmN 3) mYes (mCall F_is_tie (mCons (mVar 1) (mCons (mVar 3) mNil)))))) (mNot (mTru (mCall F_is_ascending (mCons (mVar 2) mNil)))))) (mRet (mC (.bl false))) mNext) (mRet (mCall F_is_one_group (mCons (mCall F_pieces_of (mCons (mVar 1) (mCons (mVar 2) mNil))) mNil)))))
def F_is_web : Fn := pureF (fnB 1 4 m_is_web)
theorem b_is_web (T : Txt K mg) (d_is_one_group : DefV P w K mg base 2 "is_one_group" 1 F_is_one_group) (d_is_number : DefV P w K mg base 2 "is_number" 3 F_is_number) (d_pieces_of : DefV P w K mg base 5 "pieces_of" 2 F_pieces_of) (d_is_ascending : DefV P w K mg base 2 "is_ascending" 1 F_is_ascending) (d_is_tie : DefV P w K mg base 3 "is_tie" 2 F_is_tie) {f : Addr} {c Pt : Addr} (TB : TabK K base mg c Pt) {A : Around} {outer : List Env} {s : Shared} {H : Hp} {E : XK} (hr : Room 5 (A.deeper (PyProof.Rows.envOfC "is_web" (defScope st_is_web) s.heap.objs.size f (.ref c)))) :
    SSs (cxOf (L2N.CX P w) P w K mg base N_is_web "is_web" (defScope st_is_web) f (.ref c) A outer s H E) (fun cls d _ H => E cls d H) (defBody st_is_web) (m_is_web) :=
  ss_cons (s_ifS (t_w (w_or (t_not (t_tru (s_isi (s_var (i := 0) rfl (vis_of rfl)) rfl T.n_isinstance rfl T.n_tuple bt_tuple (by decide)))) (w_or (t_cmp (oNe_ok (ru64 hr)) (s_callB fLen_ok rfl T.n_len bt_len (a_cons (s_var (i := 0) rfl (vis_of rfl)) a_nil)) s_int (by rfl)) (w_or1 (t_not (t_tru (s_call (d_is_number.mono (by decide)) hr tkX rfl (a_cons (s_ix (s_var (i := 0) rfl (vis_of rfl)) s_int) (a_cons s_int (a_cons (s_glI' rfl T.c_MOST_POSTS_webs) a_nil)))))))))) (ss_one (s_ret s_bl)) ss_nil) (ss_cons (s_asg (s_var (i := 0) rfl (vis_of rfl)) (g_tup rfl (g_cons (g_name (i := 1) nd_is_web rfl (loc_of rfl)) (g_cons (g_name (i := 2) nd_is_web rfl (loc_of rfl)) g_nil)))) (ss_cons (s_ifS (t_w (w_or (t_not (t_tru (s_isi (s_var (i := 2) rfl (vis_of rfl)) rfl T.n_isinstance rfl T.n_tuple bt_tuple (by decide)))) (w_or (t_not (t_tru (s_all (own := [("tie", 3)]) ⟨rfl, nd_is_web, hr, TB, rfl, genOk_by (by kernel_rfl), by decide, by intro _; rfl, fun _ _ _ _ _ _ hrg => ⟨c_name (i := 3) nd_is_web rfl (loc_of rfl), ts_nil, s_call (d_is_tie.mono (by decide)) hrg tk0 rfl (a_cons (s_var (i := 1) rfl (vis_of rfl)) (a_cons (s_var (i := 3) rfl (vis_of rfl)) a_nil))⟩⟩ (i_seq (s_var (i := 2) rfl (vis_of rfl))) rfl T.n_all bt_all))) (w_or1 (t_not (t_tru (s_call (d_is_ascending.mono (by decide)) hr tkX rfl (a_cons (s_var (i := 2) rfl (vis_of rfl)) a_nil)))))))) (ss_one (s_ret s_bl)) ss_nil) (ss_one (s_ret (s_call (d_is_one_group.mono (by decide)) hr tkX rfl (a_cons (s_call (d_pieces_of.mono (by decide)) hr tkX rfl (a_cons (s_var (i := 1) rfl (vis_of rfl)) (a_cons (s_var (i := 2) rfl (vis_of rfl)) a_nil))) a_nil))))))
theorem d_is_web (T : Txt K mg) (d_is_one_group : DefV P w K mg base 2 "is_one_group" 1 F_is_one_group) (d_is_number : DefV P w K mg base 2 "is_number" 3 F_is_number) (d_pieces_of : DefV P w K mg base 5 "pieces_of" 2 F_pieces_of) (d_is_ascending : DefV P w K mg base 2 "is_ascending" 1 F_is_ascending) (d_is_tie : DefV P w K mg base 3 "is_tie" 2 F_is_tie) {f : Addr} {fd : FuncData} {c Pt : Addr} (TB : TabK K base mg c Pt) (F : FunC K "is_web" st_is_web f fd c) (hm : mg "is_web" = some (.ref f)) (b : Binds K fd ["value"] []) : DefV P w K mg base 6 "is_web" 1 F_is_web := def_pure (def_mkC F hm b sc_is_web fun A outer s H E hr => b_is_web T d_is_one_group d_is_number d_pieces_of d_is_ascending d_is_tie TB hr)
/-! ### _law_due -/
abbrev st__law_due : Stmt := top 44
def N__law_due : List Str := ["which", "one", "other", "ties", "k", "posts", "post", "j"]
theorem nd__law_due : N__law_due.Nodup := by decide +kernel
theorem sc__law_due : FnScope N__law_due ["which", "one", "other"] (defScope st__law_due) := ⟨rfl, rfl, rfl, by decide +kernel, rfl, by decide +kernel, by decide +kernel⟩
def mb__law_due_0 : Sg → Hd → RS := mSet 3 (mBin oAdd (mVar 3) (mLc [7] (mRng2 (mCons (mBin oAdd (mVar 4) (mC (.int 2))) (mCons (mVar 1) mNil))) (cmN 7) mYes (mTup (mCons (mVar 4) (mCons (mVar 7) mNil)))))
def mb__law_due_1 : Sg → Hd → RS := mIfS (mTest (mBin oEq (mVar 0) (mC (.int 7)))) (mSet 3 (mBin oAdd (mBin oAdd (mVar 3) (mIf (mTest (mBin oGt (mBin oMod (mCall fInt (mCons (mBin oAdd (mVar 6) (mC (.int 1))) mNil)) (mVar 2)) (mC (.int 0)))) (mLst (mCons (mTup (mCons (mVar 6) (mCons (mBin oAdd (mVar 6) (mC (.int 1))) mNil))) mNil)) (mLst mNil))) (mIf (mTest (mBin oLt (mBin oAdd (mVar 6) (mVar 2)) (mVar 5))) (mLst (mCons (mTup (mCons (mVar 6) (mCons (mBin oAdd (mVar 6) (mVar 2)) mNil))) mNil)) (mLst mNil)))) (mIfS (mTest (mBin oLt (mVar 6) (mVar 1))) (mSet 3 (mBin oAdd (mVar 3) (mLc [4] (mRng1 (mCons (mVar 2) mNil)) (cmN 4) mYes (mTup (mCons (mVar 6) (mCons (mBin oAdd (mVar 1) (mVar 4)) mNil)))))) mNext)
def m__law_due : Sg → Hd → RS := mSeq (mIfS (mTest (mBin (oIn false) (mVar 0) (mLst (mCons (mC (.int 0)) (mCons (mC (.int 1)) (mCons (mC (.int 5)) mNil)))))) (mSeq (mSet 3 (mBin oAdd (mLc [4] (mRng1 (mCons (mBin oSub (mVar 1) (mC (.int 1))) mNil)) (cmN 4) mYes (mTup (mCons (mVar 4) (mCons (mBin oAdd (mVar 4) (mC (.int 1))) mNil)))) (mIf (mTest (mBin oEq (mVar 0) (mC (.int 1)))) (mLst (mCons (mTup (mCons (mC (.int 0)) (mCons (mBin oSub (mVar 1) (mC (.int 1))) mNil))) mNil)) (mLst mNil)))) (mSeq (mFor (mRng1 (mCons (mIf (mTest (mBin oEq (mVar 0) (mC (.int 5)))) (mVar 1) (mC (.int 0))) mNil)) (gmN 4) (mb__law_due_0)) (mRet (mTup (mCons (mVar 1) (mCons (mCall fTuple (mCons (mCall fSorted (mCons (mVar 3) mNil)) mNil)) mNil)))))) mNext) (mSeq (mIfS (mTest (mBin oLt (mVar 0) (mC (.int 5)))) (mSeq (mSet 3 (mBin oAdd (mBin oAdd (mLc [4] (mRng2 (mCons (mC (.int 1)) (mCons (mBin oAdd (mVar 1) (mC (.int 1))) mNil))) (cmN 4) mYes (mTup (mCons (mC (.int 0)) (mCons (mVar 4) mNil)))) (mLc [4] (mRng2 (mCons (mC (.int 1)) (mCons (mIf (mTest (mBin oGt (mVar 0) (mC (.int 2)))) (mVar 1) (mC (.int 1))) mNil))) (cmN 4) mYes (mTup (mCons (mVar 4) (mCons (mBin oAdd (mVar 4) (mC (.int 1))) mNil))))) (mIf (mTest (mBin oEq (mVar 0) (mC (.int 4)))) (mLst (mCons (mTup (mCons (mC (.int 1)) (mCons (mVar 1) mNil))) mNil)) (mLst mNil)))) (mRet (mTup (mCons (mBin oAdd (mVar 1) (mC (.int 1))) (mCons (mCall fTuple (mCons (mCall fSorted (mCons (mVar 3) mNil)) mNil)) mNil))))) mNext) (mSeq (mIfS (mTest (mBin oEq (mVar 0) (mC (.int 6)))) (mSeq (mSet 3 (mBin oAdd (mBin oAdd (mLc [4] (mRng1 (mCons (mVar 1) mNil)) (cmN 4) mYes (mTup (mCons (mVar 4) (mCons (mBin oAdd (mVar 1) (mVar 4)) mNil)))) (mLc [4] (mRng1 (mCons (mBin oSub (mVar 1) (mC (.int 1))) mNil)) (cmN 4) mYes (mTup (mCons (mVar 4) (mCons (mBin oAdd (mVar 4) (mC (.int 1))) mNil))))) (mLc [4] (mRng1 (mCons (mBin oSub (mVar 1) (mC (.int 1))) mNil)) (cmN 4) mYes (mTup (mCons (mBin oAdd (mVar 1) (mVar 4)) (mCons (mBin oAdd (mBin oAdd (mVar 1) (mVar 4)) (mC (.int 1))) mNil)))))) (mRet (mTup (mCons (mBin oMul (mC (.int 2)) (mVar 1)) (mCons (mCall fTuple (mCons (mCall fSorted (mCons (mVar 3) mNil)) mNil)) mNil))))) mNext) (mSeq (mPar 3 5 (mCons (mLst mNil) (mCons (mIf (mTest (mBin oEq (mVar 0) (mC (.int 7)))) (mBin oMul (mVar 1) (mVar 2)) (mBin oAdd (mVar 1) (mVar 2))) mNil))) (mSeq (mFor (mRng1 (mCons (mVar 5) mNil)) (gmN 6) (mb__law_due_1)) (mRet (mTup (mCons (mVar 5) (mCons (mCall fTuple (mCons (mCall fSorted (mCons (mVar 3) mNil)) mNil)) mNil))))))))
def F__law_due : Fn := pureF (fnB 3 8 m__law_due)
theorem b__law_due (T : Txt K mg) {f : Addr} {cdv : Value} {A : Around} {outer : List Env} {s : Shared} {H : Hp} {E : XK} (hr : Room 0 (A.deeper (PyProof.Rows.envOfC "_law_due" (defScope st__law_due) s.heap.objs.size f (cdv)))) :
    SSs (cxOf (L2N.CX P w) P w K mg base N__law_due "_law_due" (defScope st__law_due) f (cdv) A outer s H E) (fun cls d _ H => E cls d H) (defBody st__law_due) (m__law_due) :=
  ss_cons (s_ifS (t_cmp (oIn_ok (ru65 hr)) (s_var (i := 0) rfl (vis_of rfl)) (s_lst (a_cons s_int (a_cons s_int (a_cons s_int a_nil)))) (by rfl)) (ss_cons (s_set (i := 3) nd__law_due rfl (loc_of rfl) (s_op oAdd_ok (s_lc (own := [("k", 4)]) ⟨rfl, nd__law_due, blkOk_by (by kernel_rfl), by decide, by intro _; rfl, fun _ _ _ _ _ => ⟨c_name (i := 4) nd__law_due rfl (loc_of rfl), ts_nil, s_tup (a_cons (s_var (i := 4) rfl (vis_of rfl)) (a_cons (s_op oAdd_ok (s_var (i := 4) rfl (vis_of rfl)) s_int) a_nil))⟩⟩ (i_rng1 rfl T.n_range (a_cons (s_op oSub_ok (s_var (i := 1) rfl (vis_of rfl)) s_int) a_nil))) (s_if (t_cmp (oEq_ok (ru64 hr)) (s_var (i := 0) rfl (vis_of rfl)) s_int (by rfl)) (s_lst (a_cons (s_tup (a_cons s_int (a_cons (s_op oSub_ok (s_var (i := 1) rfl (vis_of rfl)) s_int) a_nil))) a_nil)) (s_lst a_nil)))) (ss_cons (s_for pown rfl (i_rng1 rfl T.n_range (a_cons (s_if (t_cmp (oEq_ok (ru64 hr)) (s_var (i := 0) rfl (vis_of rfl)) s_int (by rfl)) (s_var (i := 1) rfl (vis_of rfl)) s_int) a_nil)) (g_name (i := 4) nd__law_due rfl (loc_of rfl)) (ss_one (s_set (i := 3) nd__law_due rfl (loc_of rfl) (s_op oAdd_ok (s_var (i := 3) rfl (vis_of rfl)) (s_lc (own := [("j", 7)]) ⟨rfl, nd__law_due, blkOk_by (by kernel_rfl), by decide, by intro _; rfl, fun _ _ _ _ _ => ⟨c_name (i := 7) nd__law_due rfl (loc_of rfl), ts_nil, s_tup (a_cons (s_var (i := 4) rfl (vis_of rfl)) (a_cons (s_var (i := 7) rfl (vis_of rfl)) a_nil))⟩⟩ (i_rng2 rfl T.n_range (a_cons (s_op oAdd_ok (s_var (i := 4) rfl (vis_of rfl)) s_int) (a_cons (s_var (i := 1) rfl (vis_of rfl)) a_nil)))))))) (ss_one (s_ret (s_tup (a_cons (s_var (i := 1) rfl (vis_of rfl)) (a_cons (s_callTy fTuple_ok rfl T.n_tuple bt_tuple (a_cons (s_callB (fSorted_ok (ru80 hr)) rfl T.n_sorted bt_sorted (a_cons (s_var (i := 3) rfl (vis_of rfl)) a_nil)) a_nil)) a_nil))))))) ss_nil) (ss_cons (s_ifS (t_cmp (oLt_ok (ru64 hr)) (s_var (i := 0) rfl (vis_of rfl)) s_int (by rfl)) (ss_cons (s_set (i := 3) nd__law_due rfl (loc_of rfl) (s_op oAdd_ok (s_op oAdd_ok (s_lc (own := [("k", 4)]) ⟨rfl, nd__law_due, blkOk_by (by kernel_rfl), by decide, by intro _; rfl, fun _ _ _ _ _ => ⟨c_name (i := 4) nd__law_due rfl (loc_of rfl), ts_nil, s_tup (a_cons s_int (a_cons (s_var (i := 4) rfl (vis_of rfl)) a_nil))⟩⟩ (i_rng2 rfl T.n_range (a_cons s_int (a_cons (s_op oAdd_ok (s_var (i := 1) rfl (vis_of rfl)) s_int) a_nil)))) (s_lc (own := [("k", 4)]) ⟨rfl, nd__law_due, blkOk_by (by kernel_rfl), by decide, by intro _; rfl, fun _ _ _ _ _ => ⟨c_name (i := 4) nd__law_due rfl (loc_of rfl), ts_nil, s_tup (a_cons (s_var (i := 4) rfl (vis_of rfl)) (a_cons (s_op oAdd_ok (s_var (i := 4) rfl (vis_of rfl)) s_int) a_nil))⟩⟩ (i_rng2 rfl T.n_range (a_cons s_int (a_cons (s_if (t_cmp (oGt_ok (ru64 hr)) (s_var (i := 0) rfl (vis_of rfl)) s_int (by rfl)) (s_var (i := 1) rfl (vis_of rfl)) s_int) a_nil))))) (s_if (t_cmp (oEq_ok (ru64 hr)) (s_var (i := 0) rfl (vis_of rfl)) s_int (by rfl)) (s_lst (a_cons (s_tup (a_cons s_int (a_cons (s_var (i := 1) rfl (vis_of rfl)) a_nil))) a_nil)) (s_lst a_nil)))) (ss_one (s_ret (s_tup (a_cons (s_op oAdd_ok (s_var (i := 1) rfl (vis_of rfl)) s_int) (a_cons (s_callTy fTuple_ok rfl T.n_tuple bt_tuple (a_cons (s_callB (fSorted_ok (ru80 hr)) rfl T.n_sorted bt_sorted (a_cons (s_var (i := 3) rfl (vis_of rfl)) a_nil)) a_nil)) a_nil)))))) ss_nil) (ss_cons (s_ifS (t_cmp (oEq_ok (ru64 hr)) (s_var (i := 0) rfl (vis_of rfl)) s_int (by rfl)) (ss_cons (s_set (i := 3) nd__law_due rfl (loc_of rfl) (s_op oAdd_ok (s_op oAdd_ok (s_lc (own := [("k", 4)]) ⟨rfl, nd__law_due, blkOk_by (by kernel_rfl), by decide, by intro _; rfl, fun _ _ _ _ _ => ⟨c_name (i := 4) nd__law_due rfl (loc_of rfl), ts_nil, s_tup (a_cons (s_var (i := 4) rfl (vis_of rfl)) (a_cons (s_op oAdd_ok (s_var (i := 1) rfl (vis_of rfl)) (s_var (i := 4) rfl (vis_of rfl))) a_nil))⟩⟩ (i_rng1 rfl T.n_range (a_cons (s_var (i := 1) rfl (vis_of rfl)) a_nil))) (s_lc (own := [("k", 4)]) ⟨rfl, nd__law_due, blkOk_by (by kernel_rfl), by decide, by intro _; rfl, fun _ _ _ _ _ => ⟨c_name (i := 4) nd__law_due rfl (loc_of rfl), ts_nil, s_tup (a_cons (s_var (i := 4) rfl (vis_of rfl)) (a_cons (s_op oAdd_ok (s_var (i := 4) rfl (vis_of rfl)) s_int) a_nil))⟩⟩ (i_rng1 rfl T.n_range (a_cons (s_op oSub_ok (s_var (i := 1) rfl (vis_of rfl)) s_int) a_nil)))) (s_lc (own := [("k", 4)]) ⟨rfl, nd__law_due, blkOk_by (by kernel_rfl), by decide, by intro _; rfl, fun _ _ _ _ _ => ⟨c_name (i := 4) nd__law_due rfl (loc_of rfl), ts_nil, s_tup (a_cons (s_op oAdd_ok (s_var (i := 1) rfl (vis_of rfl)) (s_var (i := 4) rfl (vis_of rfl))) (a_cons (s_op oAdd_ok (s_op oAdd_ok (s_var (i := 1) rfl (vis_of rfl)) (s_var (i := 4) rfl (vis_of rfl))) s_int) a_nil))⟩⟩ (i_rng1 rfl T.n_range (a_cons (s_op oSub_ok (s_var (i := 1) rfl (vis_of rfl)) s_int) a_nil))))) (ss_one (s_ret (s_tup (a_cons (s_op oMul_ok s_int (s_var (i := 1) rfl (vis_of rfl))) (a_cons (s_callTy fTuple_ok rfl T.n_tuple bt_tuple (a_cons (s_callB (fSorted_ok (ru80 hr)) rfl T.n_sorted bt_sorted (a_cons (s_var (i := 3) rfl (vis_of rfl)) a_nil)) a_nil)) a_nil)))))) ss_nil) (ss_cons (s_par (i := 3) (j := 5) rfl nd__law_due rfl rfl (by decide) rfl rfl (a_cons (s_lst a_nil) (a_cons (s_if (t_cmp (oEq_ok (ru64 hr)) (s_var (i := 0) rfl (vis_of rfl)) s_int (by rfl)) (s_op oMul_ok (s_var (i := 1) rfl (vis_of rfl)) (s_var (i := 2) rfl (vis_of rfl))) (s_op oAdd_ok (s_var (i := 1) rfl (vis_of rfl)) (s_var (i := 2) rfl (vis_of rfl)))) a_nil)) rfl) (ss_cons (s_for pown rfl (i_rng1 rfl T.n_range (a_cons (s_var (i := 5) rfl (vis_of rfl)) a_nil)) (g_name (i := 6) nd__law_due rfl (loc_of rfl)) (ss_one (s_ifS (t_cmp (oEq_ok (ru64 hr)) (s_var (i := 0) rfl (vis_of rfl)) s_int (by rfl)) (ss_one (s_set (i := 3) nd__law_due rfl (loc_of rfl) (s_op oAdd_ok (s_op oAdd_ok (s_var (i := 3) rfl (vis_of rfl)) (s_if (t_cmp (oGt_ok (ru64 hr)) (s_op oMod_ok (s_callTy fInt_ok rfl T.n_int bt_int (a_cons (s_op oAdd_ok (s_var (i := 6) rfl (vis_of rfl)) s_int) a_nil)) (s_var (i := 2) rfl (vis_of rfl))) s_int (by rfl)) (s_lst (a_cons (s_tup (a_cons (s_var (i := 6) rfl (vis_of rfl)) (a_cons (s_op oAdd_ok (s_var (i := 6) rfl (vis_of rfl)) s_int) a_nil))) a_nil)) (s_lst a_nil))) (s_if (t_cmp (oLt_ok (ru64 hr)) (s_op oAdd_ok (s_var (i := 6) rfl (vis_of rfl)) (s_var (i := 2) rfl (vis_of rfl))) (s_var (i := 5) rfl (vis_of rfl)) (by rfl)) (s_lst (a_cons (s_tup (a_cons (s_var (i := 6) rfl (vis_of rfl)) (a_cons (s_op oAdd_ok (s_var (i := 6) rfl (vis_of rfl)) (s_var (i := 2) rfl (vis_of rfl))) a_nil))) a_nil)) (s_lst a_nil))))) (ss_one (s_ifS (t_cmp (oLt_ok (ru64 hr)) (s_var (i := 6) rfl (vis_of rfl)) (s_var (i := 1) rfl (vis_of rfl)) (by rfl)) (ss_one (s_set (i := 3) nd__law_due rfl (loc_of rfl) (s_op oAdd_ok (s_var (i := 3) rfl (vis_of rfl)) (s_lc (own := [("k", 4)]) ⟨rfl, nd__law_due, blkOk_by (by kernel_rfl), by decide, by intro _; rfl, fun _ _ _ _ _ => ⟨c_name (i := 4) nd__law_due rfl (loc_of rfl), ts_nil, s_tup (a_cons (s_var (i := 6) rfl (vis_of rfl)) (a_cons (s_op oAdd_ok (s_var (i := 1) rfl (vis_of rfl)) (s_var (i := 4) rfl (vis_of rfl))) a_nil))⟩⟩ (i_rng1 rfl T.n_range (a_cons (s_var (i := 2) rfl (vis_of rfl)) a_nil)))))) ss_nil))))) (ss_one (s_ret (s_tup (a_cons (s_var (i := 5) rfl (vis_of rfl)) (a_cons (s_callTy fTuple_ok rfl T.n_tuple bt_tuple (a_cons (s_callB (fSorted_ok (ru80 hr)) rfl T.n_sorted bt_sorted (a_cons (s_var (i := 3) rfl (vis_of rfl)) a_nil)) a_nil)) a_nil)))))))))
theorem d__law_due (T : Txt K mg) {f : Addr} {fd : FuncData} (F : Fun K "_law_due" "_law_due" st__law_due f fd) (hm : mg "_law_due" = some (.ref f)) (b : Binds K fd ["which", "one", "other"] []) : DefV P w K mg base 1 "_law_due" 3 F__law_due := def_pure (def_mk F hm b sc__law_due fun cdv A outer s H E hr => b__law_due T hr)
/-! ### law -/
abbrev st_law : Stmt := top 45
def N_law : List Str := ["script", "draws", "which", "rows", "one", "other", "told", "number", "k"]
theorem nd_law : N_law.Nodup := by decide +kernel
theorem sc_law : FnScope N_law ["script"] (defScope st_law) := ⟨rfl, rfl, rfl, by decide +kernel, rfl, by decide +kernel, by decide +kernel⟩
def mb_law_0 : Sg → Hd → RS := mSeq (mSet 6 (mCall F__law_made (mCons (mVar 2) (mCons (mVar 4) (mCons (mVar 5) mNil))))) (mIfS (mTru (mCall F__law_bounds (mCons (mVar 2) (mCons (mVar 4) (mCons (mVar 5) mNil))))) (mIfS (mOr (mNot (mTru (mCall (F__law_alike 8) (mCons (mVar 6) (mCons (mCall F__law_due (mCons (mVar 2) (mCons (mVar 4) (mCons (mVar 5) mNil)))) mNil))))) (mTest (mBin (oIs true) (mCall F_is_web (mCons (mVar 6) mNil)) (mC (.bl true))))) (mRet (mC (.bl false))) mNext) (mIfS (mTest (mBin oNe (mVar 6) (mC (.str "range")))) (mRet (mC (.bl false))) mNext))
def mb_law_1 : Sg → Hd → RS := mSeq (mSet 3 (mBin oAdd (mLc [8] (mRng2 (mCons (mNeg (mC (.int 1))) (mCons (mC (.int 14)) mNil))) (cmN 8) mYes (mTup (mCons (mVar 8) (mCons (mVar 8) mNil)))) (mLst (mCons (mTup (mCons (mBin oPow (mC (.int 10)) (mC (.int 30))) (mCons (mC (.int 1)) mNil))) (mCons (mTup (mCons (mBin oSub (mC (.int 0)) (mBin oPow (mC (.int 10)) (mC (.int 30)))) (mCons (mC (.int 1)) mNil))) mNil))))) (mSeq (mIfS (mTest (mBin oGt (mVar 2) (mC (.int 6)))) (mSet 3 (mBin oAdd (mLc [8] (mRng1 (mCons (mC (.int 64)) mNil)) (cmN 8) mYes (mTup (mCons (mBin oSub (mBin oSub (mVar 8) (mBin oMul (mBin oDiv (mVar 8) (mC (.int 8))) (mC (.int 8)))) (mC (.int 1))) (mCons (mBin oSub (mBin oDiv (mVar 8) (mC (.int 8))) (mC (.int 1))) mNil)))) (mLst (mCons (mTup (mCons (mC (.int 1)) (mCons (mC (.int 11)) mNil))) (mCons (mTup (mCons (mC (.int 11)) (mCons (mC (.int 1)) mNil))) (mCons (mTup (mCons (mC (.int 12)) (mCons (mC (.int 1)) mNil))) (mCons (mTup (mCons (mC (.int 1)) (mCons (mC (.int 12)) mNil))) (mCons (mTup (mCons (mC (.int 2)) (mCons (mC (.int 6)) mNil))) (mCons (mTup (mCons (mC (.int 6)) (mCons (mC (.int 2)) mNil))) (mCons (mTup (mCons (mBin oPow (mC (.int 10)) (mC (.int 20))) (mCons (mBin oPow (mC (.int 10)) (mC (.int 20))) mNil))) (mCons (mTup (mCons (mNeg (mC (.int 3))) (mCons (mNeg (mC (.int 4))) mNil))) mNil))))))))))) mNext) (mFor (mIt (mVar 3)) (gmTup 2 (gmCons (gmN 4) (gmCons (gmN 5) gmNil))) (mb_law_0)))
def m_law : Sg → Hd → RS := mSeq (mSet 1 (mCall F__law_draws (mCons (mVar 0) mNil))) (mSeq (mFor (mRng1 (mCons (mC (.int 9)) mNil)) (gmN 2) (mb_law_1)) (mSeq (mSet 7 (mBin oAdd (mC (.int 1)) (mCall F__law_take (mCons (mVar 1) (mCons (mC (.int 6)) mNil))))) (mRet (mCall (F__law_alike 8) (mCons (mLst (mCons (mCall F_ladder_web (mCons (mC (.int 1)) mNil)) (mCons (mCall F_grid_web (mCons (mC (.int 1)) (mCons (mVar 7) mNil))) (mCons (mCall F_sides_web (mCons (mC (.int 1)) (mCons (mVar 7) mNil))) (mCons (mCall F_wheel_web (mCons (mC (.int 3)) mNil)) (mCons (mCall F_fan_web (mCons (mC (.int 1)) mNil)) mNil)))))) (mCons (mLst (mCons (mTup (mCons (mC (.int 2)) (mCons (mTup (mCons (mTup (mCons (mC (.int 0)) (mCons (mC (.int 1)) mNil))) mNil)) mNil))) (mCons (mCall F_row_web (mCons (mVar 7) mNil)) (mCons (mCall F_star_web (mCons (mVar 7) mNil)) (mCons (mCall F_full_web (mCons (mC (.int 4)) mNil)) (mCons (mCall F_row_web (mCons (mC (.int 2)) mNil)) mNil)))))) mNil))))))
def F_law : Fn := pureF (fnB 1 9 m_law)
theorem b_law (T : Txt K mg) (d__law_draws : DefV P w K mg base 1 "_law_draws" 1 F__law_draws) (d__law_alike : DefV P w K mg base 9 "_law_alike" 2 (F__law_alike 8)) (d__law_take : DefV P w K mg base 1 "_law_take" 2 F__law_take) (d_grid_web : DefV P w K mg base 2 "grid_web" 2 F_grid_web) (d_sides_web : DefV P w K mg base 2 "sides_web" 2 F_sides_web) (d_row_web : DefV P w K mg base 2 "row_web" 1 F_row_web) (d_wheel_web : DefV P w K mg base 2 "wheel_web" 1 F_wheel_web) (d_full_web : DefV P w K mg base 2 "full_web" 1 F_full_web) (d_ladder_web : DefV P w K mg base 2 "ladder_web" 1 F_ladder_web) (d_star_web : DefV P w K mg base 2 "star_web" 1 F_star_web) (d_fan_web : DefV P w K mg base 2 "fan_web" 1 F_fan_web) (d__law_made : DefV P w K mg base 4 "_law_made" 3 F__law_made) (d__law_bounds : DefV P w K mg base 1 "_law_bounds" 3 F__law_bounds) (d_is_web : DefV P w K mg base 6 "is_web" 1 F_is_web) (d__law_due : DefV P w K mg base 1 "_law_due" 3 F__law_due) {f : Addr} {cdv : Value} {A : Around} {outer : List Env} {s : Shared} {H : Hp} {E : XK} (hr : Room 9 (A.deeper (PyProof.Rows.envOfC "law" (defScope st_law) s.heap.objs.size f (cdv)))) :
    SSs (cxOf (L2N.CX P w) P w K mg base N_law "law" (defScope st_law) f (cdv) A outer s H E) (fun cls d _ H => E cls d H) (defBody st_law) (m_law) :=
  ss_cons (s_set (i := 1) nd_law rfl (loc_of rfl) (s_call (d__law_draws.mono (by decide)) hr tkX rfl (a_cons (s_var (i := 0) rfl (vis_of rfl)) a_nil))) (ss_cons (s_for pown rfl (i_rng1 rfl T.n_range (a_cons s_int a_nil)) (g_name (i := 2) nd_law rfl (loc_of rfl)) (ss_cons (s_set (i := 3) nd_law rfl (loc_of rfl) (s_op oAdd_ok (s_lc (own := [("k", 8)]) ⟨rfl, nd_law, blkOk_by (by kernel_rfl), by decide, by intro _; rfl, fun _ _ _ _ _ => ⟨c_name (i := 8) nd_law rfl (loc_of rfl), ts_nil, s_tup (a_cons (s_var (i := 8) rfl (vis_of rfl)) (a_cons (s_var (i := 8) rfl (vis_of rfl)) a_nil))⟩⟩ (i_rng2 rfl T.n_range (a_cons (s_neg s_int) (a_cons s_int a_nil)))) (s_lst (a_cons (s_tup (a_cons (s_op oPow_ok s_int s_int) (a_cons s_int a_nil))) (a_cons (s_tup (a_cons (s_op oSub_ok s_int (s_op oPow_ok s_int s_int)) (a_cons s_int a_nil))) a_nil))))) (ss_cons (s_ifS (t_cmp (oGt_ok (ru64 hr)) (s_var (i := 2) rfl (vis_of rfl)) s_int (by rfl)) (ss_one (s_set (i := 3) nd_law rfl (loc_of rfl) (s_op oAdd_ok (s_lc (own := [("k", 8)]) ⟨rfl, nd_law, blkOk_by (by kernel_rfl), by decide, by intro _; rfl, fun _ _ _ _ _ => ⟨c_name (i := 8) nd_law rfl (loc_of rfl), ts_nil, s_tup (a_cons (s_op oSub_ok (s_op oSub_ok (s_var (i := 8) rfl (vis_of rfl)) (s_op oMul_ok (s_op oDiv_ok (s_var (i := 8) rfl (vis_of rfl)) s_int) s_int)) s_int) (a_cons (s_op oSub_ok (s_op oDiv_ok (s_var (i := 8) rfl (vis_of rfl)) s_int) s_int) a_nil))⟩⟩ (i_rng1 rfl T.n_range (a_cons s_int a_nil))) (s_lst (a_cons (s_tup (a_cons s_int (a_cons s_int a_nil))) (a_cons (s_tup (a_cons s_int (a_cons s_int a_nil))) (a_cons (s_tup (a_cons s_int (a_cons s_int a_nil))) (a_cons (s_tup (a_cons s_int (a_cons s_int a_nil))) (a_cons (s_tup (a_cons s_int (a_cons s_int a_nil))) (a_cons (s_tup (a_cons s_int (a_cons s_int a_nil))) (a_cons (s_tup (a_cons (s_op oPow_ok s_int s_int) (a_cons (s_op oPow_ok s_int s_int) a_nil))) (a_cons (s_tup (a_cons (s_neg s_int) (a_cons (s_neg s_int) a_nil))) a_nil)))))))))))) ss_nil) (ss_one (s_for pown rfl (i_seq (s_var (i := 3) rfl (vis_of rfl))) (g_tup rfl (g_cons (g_name (i := 4) nd_law rfl (loc_of rfl)) (g_cons (g_name (i := 5) nd_law rfl (loc_of rfl)) g_nil))) (ss_cons (s_set (i := 6) nd_law rfl (loc_of rfl) (s_call (d__law_made.mono (by decide)) hr tkX rfl (a_cons (s_var (i := 2) rfl (vis_of rfl)) (a_cons (s_var (i := 4) rfl (vis_of rfl)) (a_cons (s_var (i := 5) rfl (vis_of rfl)) a_nil))))) (ss_one (s_ifS (t_tru (s_call (d__law_bounds.mono (by decide)) hr tkX rfl (a_cons (s_var (i := 2) rfl (vis_of rfl)) (a_cons (s_var (i := 4) rfl (vis_of rfl)) (a_cons (s_var (i := 5) rfl (vis_of rfl)) a_nil))))) (ss_one (s_ifS (t_w (w_or (t_not (t_tru (s_call (d__law_alike.mono (by decide)) hr tkX rfl (a_cons (s_var (i := 6) rfl (vis_of rfl)) (a_cons (s_call (d__law_due.mono (by decide)) hr tkX rfl (a_cons (s_var (i := 2) rfl (vis_of rfl)) (a_cons (s_var (i := 4) rfl (vis_of rfl)) (a_cons (s_var (i := 5) rfl (vis_of rfl)) a_nil)))) a_nil))))) (w_or1 (t_cmp (oIsNot_ok) (s_call (d_is_web.mono (by decide)) hr tkX rfl (a_cons (s_var (i := 6) rfl (vis_of rfl)) a_nil)) s_bl (by rfl))))) (ss_one (s_ret s_bl)) ss_nil)) (ss_one (s_ifS (t_cmp (oNe_ok (ru64 hr)) (s_var (i := 6) rfl (vis_of rfl)) s_str (by rfl)) (ss_one (s_ret s_bl)) ss_nil)))))))))) (ss_cons (s_set (i := 7) nd_law rfl (loc_of rfl) (s_op oAdd_ok s_int (s_call (d__law_take.mono (by decide)) hr tkX rfl (a_cons (s_var (i := 1) rfl (vis_of rfl)) (a_cons s_int a_nil))))) (ss_one (s_ret (s_call (d__law_alike.mono (by decide)) hr tkX rfl (a_cons (s_lst (a_cons (s_call (d_ladder_web.mono (by decide)) hr tkX rfl (a_cons s_int a_nil)) (a_cons (s_call (d_grid_web.mono (by decide)) hr tkX rfl (a_cons s_int (a_cons (s_var (i := 7) rfl (vis_of rfl)) a_nil))) (a_cons (s_call (d_sides_web.mono (by decide)) hr tkX rfl (a_cons s_int (a_cons (s_var (i := 7) rfl (vis_of rfl)) a_nil))) (a_cons (s_call (d_wheel_web.mono (by decide)) hr tkX rfl (a_cons s_int a_nil)) (a_cons (s_call (d_fan_web.mono (by decide)) hr tkX rfl (a_cons s_int a_nil)) a_nil)))))) (a_cons (s_lst (a_cons (s_tup (a_cons s_int (a_cons (s_tup (a_cons (s_tup (a_cons s_int (a_cons s_int a_nil))) a_nil)) a_nil))) (a_cons (s_call (d_row_web.mono (by decide)) hr tkX rfl (a_cons (s_var (i := 7) rfl (vis_of rfl)) a_nil)) (a_cons (s_call (d_star_web.mono (by decide)) hr tkX rfl (a_cons (s_var (i := 7) rfl (vis_of rfl)) a_nil)) (a_cons (s_call (d_full_web.mono (by decide)) hr tkX rfl (a_cons s_int a_nil)) (a_cons (s_call (d_row_web.mono (by decide)) hr tkX rfl (a_cons s_int a_nil)) a_nil)))))) a_nil)))))))
theorem d_law (T : Txt K mg) (d__law_draws : DefV P w K mg base 1 "_law_draws" 1 F__law_draws) (d__law_alike : DefV P w K mg base 9 "_law_alike" 2 (F__law_alike 8)) (d__law_take : DefV P w K mg base 1 "_law_take" 2 F__law_take) (d_grid_web : DefV P w K mg base 2 "grid_web" 2 F_grid_web) (d_sides_web : DefV P w K mg base 2 "sides_web" 2 F_sides_web) (d_row_web : DefV P w K mg base 2 "row_web" 1 F_row_web) (d_wheel_web : DefV P w K mg base 2 "wheel_web" 1 F_wheel_web) (d_full_web : DefV P w K mg base 2 "full_web" 1 F_full_web) (d_ladder_web : DefV P w K mg base 2 "ladder_web" 1 F_ladder_web) (d_star_web : DefV P w K mg base 2 "star_web" 1 F_star_web) (d_fan_web : DefV P w K mg base 2 "fan_web" 1 F_fan_web) (d__law_made : DefV P w K mg base 4 "_law_made" 3 F__law_made) (d__law_bounds : DefV P w K mg base 1 "_law_bounds" 3 F__law_bounds) (d_is_web : DefV P w K mg base 6 "is_web" 1 F_is_web) (d__law_due : DefV P w K mg base 1 "_law_due" 3 F__law_due) {f : Addr} {fd : FuncData} (F : Fun K "law" "law" st_law f fd) (hm : mg "law" = some (.ref f)) (b : Binds K fd ["script"] []) : DefV P w K mg base 10 "law" 1 F_law := def_pure (def_mk F hm b sc_law fun cdv A outer s H E hr => b_law T d__law_draws d__law_alike d__law_take d_grid_web d_sides_web d_row_web d_wheel_web d_full_web d_ladder_web d_star_web d_fan_web d__law_made d__law_bounds d_is_web d__law_due hr)
end
end EV

set_option Elab.async false
set_option linter.all false
set_option maxRecDepth 100000
set_option maxHeartbeats 4000000
namespace EV
open PySem PySem.Spec L2
theorem forL_inv {gm : W → Sg → Hd → RS} {b : Sg → Hd → RS} (Iv : Nat → Sg → Hd → Prop) : ∀ (xs : List W) (i : Nat) (σ : Sg) (h : Hd), Iv i σ h →
    (∀ (j : Nat) (x : W) (σ : Sg) (h : Hd), xs[j]? = some x → Iv (i + j) σ h → ∃ σ' h', (gm x σ h).tg b = .nx σ' h' ∧ Iv (i + j + 1) σ' h') → ∃ σ' h', forL gm b xs σ h = .nx σ' h' ∧ Iv (i + xs.length) σ' h'
  | [], i, σ, h, h0, _ => ⟨σ, h, rfl, h0⟩
  | x :: xs, i, σ, h, h0, st => by
    obtain ⟨σ1, h1, e1, i1⟩ := st 0 x σ h rfl h0
    obtain ⟨σ2, h2, e2, i2⟩ := forL_inv (gm := gm) (b := b) Iv xs (i + 1) σ1 h1 i1 fun j y σ h e iv => by
      obtain ⟨σ', h', e', i'⟩ := st (j + 1) y σ h (by simpa using e) (by rw [← Nat.add_assoc, Nat.add_right_comm]; exact iv)
      exact ⟨σ', h', e', by rw [← Nat.add_assoc, Nat.add_right_comm i j 1] at i'; exact i'⟩
    refine ⟨σ2, h2, ?_, by rw [List.length_cons, Nat.add_comm xs.length 1, ← Nat.add_assoc]; exact i2⟩
    show ((gm x σ h).tg b).lp (forL gm b xs) = _
    rw [e1]
    exact e2
abbrev dS (ws : List W) (c n k f s : Option W) : Sg := [some (.scr ws), some (.ref 0), c, n, k, f, s]
def dLoop1 : Sg → Hd → RS := mIfS (mTest (mBin oGt (mVar 3) (mC (.int 0)))) (mSeq (mDrop (mMe "list" fAppend (mVar 1) (mCons (mBin oMod (mCall fInt (mCons (mVar 3) mNil)) (mC (.int 997))) mNil))) (mSet 3 (mBin oDiv (mVar 3) (mC (.int 997))))) mNext
theorem dLoop1_ok {ws : List W} {c k f s : Option W} {v : Int} {xs : List Int} (hl : xs.length < 16777216) : ∃ (v' : Int) (xs' : List Int), dLoop1 (dS ws c (some (.int v)) k f s) [.lst (xs.map W.int)] = .nx (dS ws c (some (.int v')) k f s) [.lst (xs'.map W.int)] ∧ xs'.length ≤ xs.length + 1 := by
  by_cases hv : 0 < v
  · refine ⟨v / 997, xs ++ [v % 997], ?_, by simp⟩
    simp [dLoop1, mIfS, mTest, mBin, mVar, mC, oGt, oOrd, asB, R.bind, R.st, mSeq, RS.thn, mDrop, mMe, tyW, mCons, mNil, mCall, fInt, oMod, fAppend, refL, mSet, oDiv, hv, hl]
  · refine ⟨v, xs, ?_, by simp⟩
    simp [dLoop1, mIfS, mTest, mBin, mVar, mC, oGt, oOrd, asB, R.bind, R.st, mNext, hv]
def dFirst : Sg → Hd → RS := mIfS (mTest (mBin oLt (mVar 3) (mBin oPow (mC (.int 10)) (mC (.int 18))))) (mSeq (mSet 5 (mBin oMod (mCall fInt (mCons (mBin oAdd (mBin oMul (mVar 3) (mC (.int 48271))) (mC (.int 11))) mNil)) (mC (.int 2147483647)))) (mSeq (mDrop (mMe "list" fAppend (mVar 1) (mCons (mBin oMod (mCall fInt (mCons (mBin oAdd (mBin oMul (mVar 5) (mC (.int 69621))) (mVar 3)) mNil)) (mC (.int 2147483629))) mNil))) (mSeq (mDrop (mMe "list" fAppend (mVar 1) (mCons (mBin oMod (mCall fInt (mCons (mBin oAdd (mVar 5) (mBin oDiv (mVar 3) (mC (.int 7)))) mNil)) (mC (.int 1000003))) mNil))) (mSet 3 (mC (.int 0)))))) mNext
theorem sm1 : small64 48271 = true := by decide +kernel
theorem sm2 : small64 69621 = true := by decide +kernel
theorem dFirst_ok {ws : List W} {c k f s : Option W} {v : Int} {xs : List Int} (hl : xs.length + 1 < 16777216) : ∃ (v' : Int) (f' : Option W) (xs' : List Int), dFirst (dS ws c (some (.int v)) k f s) [.lst (xs.map W.int)] = .nx (dS ws c (some (.int v')) k f' s) [.lst (xs'.map W.int)] ∧ xs'.length ≤ xs.length + 2 := by
  have hl' : xs.length < 16777216 := by omega
  by_cases hv : v < 1000000000000000000
  · refine ⟨0, some (.int ((v * 48271 + 11) % 2147483647)), xs ++ [((v * 48271 + 11) % 2147483647 * 69621 + v) % 2147483629, ((v * 48271 + 11) % 2147483647 + v / 7) % 1000003], ?_, by simp⟩
    simp [dFirst, mIfS, mTest, mBin, mVar, mC, oLt, oOrd, asB, R.bind, R.st, mSeq, RS.thn, mDrop, mMe, tyW, mCons, mNil, mCall, fInt, oMod, oMul, oAdd, oPow, fAppend, refL, mSet, oDiv, hv, hl, hl', sm1, sm2]
  · refine ⟨v, f, xs, ?_, by simp⟩
    simp [dFirst, mIfS, mTest, mBin, mVar, mC, oLt, oOrd, oPow, asB, R.bind, R.st, mNext, hv]
def dCell : Sg → Hd → RS := mSeq (mSet 3 (mCall fAbs (mCons (mVar 2) mNil))) (mSeq dFirst (mFor (mRng1 (mCons (mC (.int 60)) mNil)) (gmN 4) dLoop1))
def dSeed : Sg → Hd → RS := mSeq (mSet 6 (mBin oMod (mCall fInt (mCons (mBin oAdd (mBin oMul (mVar 6) (mC (.int 48271))) (mC (.int 69621))) mNil)) (mC (.int 2147483647)))) (mDrop (mMe "list" fAppend (mVar 1) (mCons (mBin oDiv (mVar 6) (mC (.int 5))) mNil)))
theorem m_draws_eq : m__law_draws = mSeq (mSet 1 (mNew mNil)) (mSeq (mFor (mIt (mVar 0)) (gmN 2) dCell) (mSeq (mSet 6 (mC (.int 1))) (mSeq (mIfS (mTest (mBin oGt (mCall fLen (mCons (mVar 0) mNil)) (mC (.int 0)))) (mSet 6 (mBin oAdd (mC (.int 1)) (mCall fAbs (mCons (mBin oIx (mVar 0) (mC (.int 0))) mNil)))) mNext)
  (mSeq (mFor (mRng1 (mCons (mC (.int 900)) mNil)) (gmN 4) dSeed) (mRet (mLRevN (mVar 1))))))) := rfl
theorem dSeed_ok {ws : List W} {c n k f : Option W} {v : Int} {xs : List Int} (hl : xs.length < 16777216) : ∃ (v' : Int) (xs' : List Int), dSeed (dS ws c n k f (some (.int v))) [.lst (xs.map W.int)] = .nx (dS ws c n k f (some (.int v'))) [.lst (xs'.map W.int)] ∧ xs'.length ≤ xs.length + 1 := by
  refine ⟨(v * 48271 + 69621) % 2147483647, xs ++ [(v * 48271 + 69621) % 2147483647 / 5], ?_, by simp⟩
  simp [dSeed, mBin, mVar, mC, R.bind, R.st, mSeq, RS.thn, mDrop, mMe, tyW, mCons, mNil, mCall, fInt, oMod, oMul, oAdd, fAppend, refL, mSet, oDiv, hl, sm1]
theorem dCell_ok {ws : List W} {n k f s : Option W} {z : Int} {xs : List Int} (hl : xs.length + 62 < 16777216) : ∃ (n' k' f' : Option W) (xs' : List Int), dCell (dS ws (some (.int z)) n k f s) [.lst (xs.map W.int)] = .nx (dS ws (some (.int z)) n' k' f' s) [.lst (xs'.map W.int)] ∧ xs'.length ≤ xs.length + 62 := by
  obtain ⟨v1, f1, x1, e1, l1⟩ := dFirst_ok (ws := ws) (c := some (.int z)) (k := k) (f := f) (s := s) (v := if z < 0 then -z else z) (xs := xs) (by omega)
  obtain ⟨σ2, h2, e2, v2, k2, x2, rfl, rfl, l2⟩ := forL_inv (gm := gmN 4) (b := dLoop1) (fun j σ h => ∃ (v : Int) (k : Option W) (xs' : List Int), σ = dS ws (some (.int z)) (some (.int v)) k f1 s ∧ h = [.lst (xs'.map W.int)] ∧ xs'.length ≤ x1.length + j)
    ((List.range 60).map fun (k : Nat) => W.int k) 0 (dS ws (some (.int z)) (some (.int v1)) k f1 s) [.lst (x1.map W.int)] ⟨v1, k, x1, rfl, rfl, by omega⟩ fun j x σ h e ⟨v, k', x', e3, e4, l⟩ => by
      subst e3 e4
      have hj : j < 60 := by
        have := (List.getElem?_eq_some_iff.mp e).1
        simpa using this
      obtain ⟨v', x'', e5, l5⟩ := dLoop1_ok (ws := ws) (c := some (.int z)) (k := some x) (f := f1) (s := s) (v := v) (xs := x') (by omega)
      exact ⟨_, _, e5, v', some x, x'', rfl, rfl, by omega⟩
  refine ⟨some (.int v2), k2, f1, x2, ?_, by simp at l2; omega⟩
  have ea : mSet 3 (mCall fAbs (mCons (mVar 2) mNil)) (dS ws (some (.int z)) n k f s) [.lst (xs.map W.int)] = .nx (dS ws (some (.int z)) (some (.int (if z < 0 then -z else z))) k f s) [.lst (xs.map W.int)] := by
    simp [mSet, mCall, fAbs, mCons, mNil, mVar, R.bind, R.st]
  unfold dCell mSeq
  rw [ea]
  show ((dFirst _ _).thn _) = _
  rw [e1]
  exact e2
theorem ix0 (n : Nat) : ixN (n + 1) 0 = some 0 := by
  unfold ixN
  simp
theorem draws_ok {ns : List Int} (hn : ns.length ≤ 63) : ∃ xs : List Int, F__law_draws [.scr (ns.map W.int)] [] = .ok (.ref 1) [.lst (xs.map W.int), .lst ((xs.map W.int).reverse)] ∧ xs.length ≤ 16777216 := by
  obtain ⟨σ1, h1, e1, c1, n1, k1, f1, x1, rfl, rfl, l1⟩ := forL_inv (gm := gmN 2) (b := dCell) (fun j σ h => ∃ (c n k f : Option W) (xs : List Int), σ = dS (ns.map W.int) c n k f none ∧ h = [.lst (xs.map W.int)] ∧ xs.length ≤ 62 * j)
    (ns.map W.int) 0 (dS (ns.map W.int) none none none none none) [.lst (([] : List Int).map W.int)] ⟨none, none, none, none, [], rfl, rfl, by simp⟩ fun j x σ h e ⟨c, n, k, f, x', e3, e4, l⟩ => by
      subst e3 e4
      have hj := (List.getElem?_eq_some_iff.mp e).1
      rw [List.length_map] at hj
      obtain ⟨z, hz, rfl⟩ : ∃ z, ns[j]? = some z ∧ W.int z = x := by
        rw [List.getElem?_map] at e
        exact Option.map_eq_some_iff.mp e
      obtain ⟨n', k', f', x'', e5, l5⟩ := dCell_ok (ws := ns.map W.int) (n := n) (k := k) (f := f) (s := none) (z := z) (xs := x') (by omega)
      exact ⟨_, _, e5, _, n', k', f', x'', rfl, rfl, by omega⟩
  simp only [List.length_map, Nat.zero_add] at l1
  have es : ∃ v : Int, ((mSet 6 (mC (.int 1)) (dS (ns.map W.int) c1 n1 k1 f1 none) [.lst (x1.map W.int)]).thn (mIfS (mTest (mBin oGt (mCall fLen (mCons (mVar 0) mNil)) (mC (.int 0)))) (mSet 6 (mBin oAdd (mC (.int 1)) (mCall fAbs (mCons (mBin oIx (mVar 0) (mC (.int 0))) mNil)))) mNext)) = .nx (dS (ns.map W.int) c1 n1 k1 f1 (some (.int v))) [.lst (x1.map W.int)] := by
    cases ns with
    | nil => exact ⟨1, by simp [mSet, mC, R.st, RS.thn, mIfS, mTest, mBin, mCall, fLen, mCons, mNil, mVar, R.bind, seqOf, lstOf, oGt, oOrd, asB, mNext]⟩
    | cons z ns => exact ⟨1 + (if z < 0 then -z else z), by simp [mSet, mC, R.st, RS.thn, mIfS, mTest, mBin, mCall, fLen, mCons, mNil, mVar, R.bind, seqOf, lstOf, oGt, oOrd, asB, oIx, atI, ix0, fAbs, oAdd]⟩
  obtain ⟨v, es⟩ := es
  obtain ⟨σ2, h2, e2, k2, v2, x2, rfl, rfl, l2⟩ := forL_inv (gm := gmN 4) (b := dSeed) (fun j σ h => ∃ (k : Option W) (v : Int) (xs : List Int), σ = dS (ns.map W.int) c1 n1 k f1 (some (.int v)) ∧ h = [.lst (xs.map W.int)] ∧ xs.length ≤ x1.length + j)
    ((List.range 900).map fun (k : Nat) => W.int k) 0 (dS (ns.map W.int) c1 n1 k1 f1 (some (.int v))) [.lst (x1.map W.int)] ⟨k1, v, x1, rfl, rfl, by omega⟩ fun j x σ h e ⟨k, v, x', e3, e4, l⟩ => by
      subst e3 e4
      have hj : j < 900 := by
        have := (List.getElem?_eq_some_iff.mp e).1
        simpa using this
      obtain ⟨v', x'', e5, l5⟩ := dSeed_ok (ws := ns.map W.int) (c := c1) (n := n1) (k := some x) (f := f1) (v := v) (xs := x') (by omega)
      exact ⟨_, _, e5, some x, v', x'', rfl, rfl, by omega⟩
  simp only [List.length_map, List.length_range, Nat.zero_add] at l2
  refine ⟨x2, ?_, by omega⟩
  have e0 : F__law_draws [.scr (ns.map W.int)] [] = fnEnd (m__law_draws [some (.scr (ns.map W.int)), none, none, none, none, none, none] []) := rfl
  rw [e0, m_draws_eq]
  have ea : mSet 1 (mNew mNil) [some (.scr (ns.map W.int)), none, none, none, none, none, none] [] = .nx (dS (ns.map W.int) none none none none none) [.lst (([] : List Int).map W.int)] := rfl
  have eb : mFor (mIt (mVar 0)) (gmN 2) dCell (dS (ns.map W.int) none none none none none) [.lst (([] : List Int).map W.int)] = .nx (dS (ns.map W.int) c1 n1 k1 f1 none) [.lst (x1.map W.int)] := e1
  have ec : mFor (mRng1 (mCons (mC (.int 900)) mNil)) (gmN 4) dSeed (dS (ns.map W.int) c1 n1 k1 f1 (some (.int v))) [.lst (x1.map W.int)] = .nx (dS (ns.map W.int) c1 n1 k2 f1 (some (.int v2))) [.lst (x2.map W.int)] := e2
  have assoc : ∀ (r : RS) (f g : Sg → Hd → RS), r.thn (fun σ h => (f σ h).thn g) = (r.thn f).thn g := fun r f g => by cases r <;> rfl
  show fnEnd ((mSet 1 (mNew mNil) _ _).thn _) = _
  rw [ea]
  show fnEnd ((mFor (mIt (mVar 0)) (gmN 2) dCell _ _).thn _) = _
  rw [eb]
  show fnEnd ((mSet 6 (mC (.int 1)) _ _).thn (fun σ h => (mIfS _ _ _ σ h).thn _)) = _
  rw [assoc, es]
  show fnEnd ((mFor (mRng1 (mCons (mC (.int 900)) mNil)) (gmN 4) dSeed _ _).thn _) = _
  rw [ec]
  rfl
end EV

set_option Elab.async false
set_option linter.all false
set_option maxRecDepth 100000
set_option maxHeartbeats 4000000
namespace EV
open PySem PySem.Spec L2
theorem forL_step {gm : W → Sg → Hd → RS} {b : Sg → Hd → RS} {x : W} {xs : List W} {σ σ1 : Sg} {h h1 : Hd} (e : (gm x σ h).tg b = .nx σ1 h1) : forL gm b (x :: xs) σ h = forL gm b xs σ1 h1 := by
  show ((gm x σ h).tg b).lp (forL gm b xs) = _
  rw [e]
  rfl
def rowsA : W := .fl [.tup [.int (-1), .int (-1)], .tup [.int 0, .int 0], .tup [.int 1, .int 1], .tup [.int 2, .int 2], .tup [.int 3, .int 3], .tup [.int 4, .int 4], .tup [.int 5, .int 5], .tup [.int 6, .int 6], .tup [.int 7, .int 7], .tup [.int 8, .int 8], .tup [.int 9, .int 9], .tup [.int 10, .int 10], .tup [.int 11, .int 11], .tup [.int 12, .int 12], .tup [.int 13, .int 13], .tup [.int 1000000000000000000000000000000, .int 1], .tup [.int (-1000000000000000000000000000000), .int 1]]
def rowsB : W := .fl [.tup [.int (-1), .int (-1)], .tup [.int 0, .int (-1)], .tup [.int 1, .int (-1)], .tup [.int 2, .int (-1)], .tup [.int 3, .int (-1)], .tup [.int 4, .int (-1)], .tup [.int 5, .int (-1)], .tup [.int 6, .int (-1)], .tup [.int (-1), .int 0], .tup [.int 0, .int 0], .tup [.int 1, .int 0], .tup [.int 2, .int 0], .tup [.int 3, .int 0], .tup [.int 4, .int 0], .tup [.int 5, .int 0], .tup [.int 6, .int 0], .tup [.int (-1), .int 1], .tup [.int 0, .int 1], .tup [.int 1, .int 1], .tup [.int 2, .int 1], .tup [.int 3, .int 1], .tup [.int 4, .int 1], .tup [.int 5, .int 1], .tup [.int 6, .int 1], .tup [.int (-1), .int 2], .tup [.int 0, .int 2], .tup [.int 1, .int 2], .tup [.int 2, .int 2], .tup [.int 3, .int 2], .tup [.int 4, .int 2], .tup [.int 5, .int 2], .tup [.int 6, .int 2], .tup [.int (-1), .int 3], .tup [.int 0, .int 3], .tup [.int 1, .int 3], .tup [.int 2, .int 3], .tup [.int 3, .int 3], .tup [.int 4, .int 3], .tup [.int 5, .int 3], .tup [.int 6, .int 3], .tup [.int (-1), .int 4], .tup [.int 0, .int 4], .tup [.int 1, .int 4], .tup [.int 2, .int 4], .tup [.int 3, .int 4], .tup [.int 4, .int 4], .tup [.int 5, .int 4], .tup [.int 6, .int 4], .tup [.int (-1), .int 5], .tup [.int 0, .int 5], .tup [.int 1, .int 5], .tup [.int 2, .int 5], .tup [.int 3, .int 5], .tup [.int 4, .int 5], .tup [.int 5, .int 5], .tup [.int 6, .int 5], .tup [.int (-1), .int 6], .tup [.int 0, .int 6], .tup [.int 1, .int 6], .tup [.int 2, .int 6], .tup [.int 3, .int 6], .tup [.int 4, .int 6], .tup [.int 5, .int 6], .tup [.int 6, .int 6], .tup [.int 1, .int 11], .tup [.int 11, .int 1], .tup [.int 12, .int 1], .tup [.int 1, .int 12], .tup [.int 2, .int 6], .tup [.int 6, .int 2], .tup [.int 100000000000000000000, .int 100000000000000000000], .tup [.int (-3), .int (-4)]]
theorem lw_0 (s d : W) (a b c e n k : Option W) (h : Hd) : mb_law_1 [some s, some d, some (.int 0), a, b, c, e, n, k] h = .nx [some s, some d, some (.int 0), some rowsA, some (.int (-1000000000000000000000000000000)), some (.int 1), some (.str "range"), n, k] h := by kernel_rfl
theorem lw_1 (s d : W) (a b c e n k : Option W) (h : Hd) : mb_law_1 [some s, some d, some (.int 1), a, b, c, e, n, k] h = .nx [some s, some d, some (.int 1), some rowsA, some (.int (-1000000000000000000000000000000)), some (.int 1), some (.str "range"), n, k] h := by kernel_rfl
theorem lw_2 (s d : W) (a b c e n k : Option W) (h : Hd) : mb_law_1 [some s, some d, some (.int 2), a, b, c, e, n, k] h = .nx [some s, some d, some (.int 2), some rowsA, some (.int (-1000000000000000000000000000000)), some (.int 1), some (.str "range"), n, k] h := by kernel_rfl
theorem lw_3 (s d : W) (a b c e n k : Option W) (h : Hd) : mb_law_1 [some s, some d, some (.int 3), a, b, c, e, n, k] h = .nx [some s, some d, some (.int 3), some rowsA, some (.int (-1000000000000000000000000000000)), some (.int 1), some (.str "range"), n, k] h := by kernel_rfl
theorem lw_4 (s d : W) (a b c e n k : Option W) (h : Hd) : mb_law_1 [some s, some d, some (.int 4), a, b, c, e, n, k] h = .nx [some s, some d, some (.int 4), some rowsA, some (.int (-1000000000000000000000000000000)), some (.int 1), some (.str "range"), n, k] h := by kernel_rfl
theorem lw_5 (s d : W) (a b c e n k : Option W) (h : Hd) : mb_law_1 [some s, some d, some (.int 5), a, b, c, e, n, k] h = .nx [some s, some d, some (.int 5), some rowsA, some (.int (-1000000000000000000000000000000)), some (.int 1), some (.str "range"), n, k] h := by kernel_rfl
theorem lw_6 (s d : W) (a b c e n k : Option W) (h : Hd) : mb_law_1 [some s, some d, some (.int 6), a, b, c, e, n, k] h = .nx [some s, some d, some (.int 6), some rowsA, some (.int (-1000000000000000000000000000000)), some (.int 1), some (.str "range"), n, k] h := by kernel_rfl
theorem lw_7 (s d : W) (a b c e n k : Option W) (h : Hd) : mb_law_1 [some s, some d, some (.int 7), a, b, c, e, n, k] h = .nx [some s, some d, some (.int 7), some rowsB, some (.int (-3)), some (.int (-4)), some (.str "range"), n, k] h := by kernel_rfl
theorem lw_8 (s d : W) (a b c e n k : Option W) (h : Hd) : mb_law_1 [some s, some d, some (.int 8), a, b, c, e, n, k] h = .nx [some s, some d, some (.int 8), some rowsB, some (.int (-3)), some (.int (-4)), some (.str "range"), n, k] h := by kernel_rfl
end EV

set_option Elab.async false
set_option linter.all false
set_option maxRecDepth 100000
set_option maxHeartbeats 4000000
namespace EV
open PySem PySem.Spec L2
theorem eqv_int (a b : Int) : PyData.eqv (.int a) (.int b) = decide (a = b) := by
  first
    | rfl
    | simp [PyData.eqv]
theorem take_ok {h : Hd} {l : Nat} {zs : List Int} {b : Int} (hb : 0 < b) (e : h[l]? = some (.lst (zs.map W.int))) : ∃ r h', F__law_take [.ref l, .int b] h = .ok (.int r) h' ∧ 0 ≤ r ∧ r < b := by
  show ∃ r h', fnEnd (m__law_take [some (.ref l), some (.int b)] h) = .ok (.int r) h' ∧ 0 ≤ r ∧ r < b
  have hl : mCall fLen (mCons (mVar 0) mNil) [some (.ref l), some (.int b)] h = .ok (.int zs.length) h := by
    simp [mCall, fLen, mCons, mNil, mVar, R.bind, seqOf, lstOf, lstM, e]
  cases zs with
  | nil =>
    refine ⟨0, h, ?_, by omega, hb⟩
    simp [m__law_take, mSeq, mIfS, mTest, mBin, hl, mC, R.bind, oEq, toD, eqv_int, asB, R.st, mRet, RS.thn, fnEnd]
  | cons z zs =>
    have hz : decide (((z :: zs).length : Int) = 0) = false := decide_eq_false (by simp only [List.length_cons]; omega)
    obtain ⟨y, hy⟩ : ∃ y : Int, ((z :: zs).map W.int)[((z :: zs).map W.int).length - 1]? = some (.int y) := by
      rw [List.getElem?_map]
      have : ((z :: zs).map W.int).length - 1 < (z :: zs).length := by simp
      rw [List.getElem?_eq_getElem this]
      exact ⟨_, rfl⟩
    refine ⟨y % b, h.set l (.lst ((z :: zs).map W.int).dropLast), ?_, Int.emod_nonneg _ (by omega), Int.emod_lt_of_pos _ hb⟩
    have hp : mMe "list" fPop (mVar 0) mNil [some (.ref l), some (.int b)] h = .ok (.int y) (h.set l (.lst ((z :: zs).map W.int).dropLast)) := by
      simp only [mMe, mVar, mNil, R.bind, List.getElem?_cons_zero, tyW, e, fPop, refL, hy, if_true]
    have h1 : mIfS (mTest (mBin oEq (mCall fLen (mCons (mVar 0) mNil)) (mC (.int 0)))) (mRet (mC (.int 0))) mNext [some (.ref l), some (.int b)] h = .nx [some (.ref l), some (.int b)] h := by
      simp only [mIfS, mTest, mBin, hl, mC, R.bind, oEq, toD, eqv_int, hz, asB, R.st, mNext, if_false, Bool.false_eq_true]
    show fnEnd ((mIfS (mTest (mBin oEq (mCall fLen (mCons (mVar 0) mNil)) (mC (.int 0)))) (mRet (mC (.int 0))) mNext [some (.ref l), some (.int b)] h).thn _) = _
    rw [h1]
    simp only [RS.thn, mRet, mBin, mCall, mCons, hp, R.bind, mNil, fInt, mVar, oMod, hb, if_true, R.st, fnEnd, List.getElem?_cons_succ, List.getElem?_cons_zero]
abbrev lastM : Sg → Hd → RS := (mRet (mCall (F__law_alike 8) (mCons (mLst (mCons (mCall F_ladder_web (mCons (mC (.int 1)) mNil)) (mCons (mCall F_grid_web (mCons (mC (.int 1)) (mCons (mVar 7) mNil))) (mCons (mCall F_sides_web (mCons (mC (.int 1)) (mCons (mVar 7) mNil))) (mCons (mCall F_wheel_web (mCons (mC (.int 3)) mNil)) (mCons (mCall F_fan_web (mCons (mC (.int 1)) mNil)) mNil)))))) (mCons (mLst (mCons (mTup (mCons (mC (.int 2)) (mCons (mTup (mCons (mTup (mCons (mC (.int 0)) (mCons (mC (.int 1)) mNil))) mNil)) mNil))) (mCons (mCall F_row_web (mCons (mVar 7) mNil)) (mCons (mCall F_star_web (mCons (mVar 7) mNil)) (mCons (mCall F_full_web (mCons (mC (.int 4)) mNil)) (mCons (mCall F_row_web (mCons (mC (.int 2)) mNil)) mNil)))))) mNil))))
theorem la1 (s d : W) (a b c e f k : Option W) (h : Hd) : lastM [some s, some d, a, b, c, e, f, some (.int 1), k] h = .rt (.bl true) h := by kernel_rfl
theorem la2 (s d : W) (a b c e f k : Option W) (h : Hd) : lastM [some s, some d, a, b, c, e, f, some (.int 2), k] h = .rt (.bl true) h := by kernel_rfl
theorem la3 (s d : W) (a b c e f k : Option W) (h : Hd) : lastM [some s, some d, a, b, c, e, f, some (.int 3), k] h = .rt (.bl true) h := by kernel_rfl
theorem la4 (s d : W) (a b c e f k : Option W) (h : Hd) : lastM [some s, some d, a, b, c, e, f, some (.int 4), k] h = .rt (.bl true) h := by kernel_rfl
theorem la5 (s d : W) (a b c e f k : Option W) (h : Hd) : lastM [some s, some d, a, b, c, e, f, some (.int 5), k] h = .rt (.bl true) h := by kernel_rfl
theorem la6 (s d : W) (a b c e f k : Option W) (h : Hd) : lastM [some s, some d, a, b, c, e, f, some (.int 6), k] h = .rt (.bl true) h := by kernel_rfl
theorem loop9 {B : Sg → Hd → RS} {s d n k : Option W} {h : Hd} {r1 o1 t1 u1 r2 o2 t2 u2 : Option W}
    (hA : ∀ (w : Int), 0 ≤ w → w < 7 → ∀ a b c e, B [s, d, some (.int w), a, b, c, e, n, k] h = .nx [s, d, some (.int w), r1, o1, t1, u1, n, k] h)
    (hB : ∀ (w : Int), 7 ≤ w → w < 9 → ∀ a b c e, B [s, d, some (.int w), a, b, c, e, n, k] h = .nx [s, d, some (.int w), r2, o2, t2, u2, n, k] h) (z a b c e : Option W) :
    mFor (mRng1 (mCons (mC (.int 9)) mNil)) (gmN 2) B [s, d, z, a, b, c, e, n, k] h = .nx [s, d, some (.int 8), r2, o2, t2, u2, n, k] h := by
  have e0 : ∀ σ, mFor (mRng1 (mCons (mC (.int 9)) mNil)) (gmN 2) B σ h = forL (gmN 2) B [.int 0, .int 1, .int 2, .int 3, .int 4, .int 5, .int 6, .int 7, .int 8] σ h := fun σ => rfl
  have fs : ∀ (w : Int) (z a b c e : Option W), (gmN 2 (.int w) [s, d, z, a, b, c, e, n, k] h).tg B = B [s, d, some (.int w), a, b, c, e, n, k] h := fun _ _ _ _ _ _ => rfl
  rw [e0, forL_step ((fs 0 _ _ _ _ _).trans (hA 0 (by decide) (by decide) _ _ _ _)), forL_step ((fs 1 _ _ _ _ _).trans (hA 1 (by decide) (by decide) _ _ _ _)), forL_step ((fs 2 _ _ _ _ _).trans (hA 2 (by decide) (by decide) _ _ _ _)),
    forL_step ((fs 3 _ _ _ _ _).trans (hA 3 (by decide) (by decide) _ _ _ _)), forL_step ((fs 4 _ _ _ _ _).trans (hA 4 (by decide) (by decide) _ _ _ _)), forL_step ((fs 5 _ _ _ _ _).trans (hA 5 (by decide) (by decide) _ _ _ _)),
    forL_step ((fs 6 _ _ _ _ _).trans (hA 6 (by decide) (by decide) _ _ _ _)), forL_step ((fs 7 _ _ _ _ _).trans (hB 7 (by decide) (by decide) _ _ _ _)), forL_step ((fs 8 _ _ _ _ _).trans (hB 8 (by decide) (by decide) _ _ _ _))]
  rfl
theorem loop_ok (s d : W) (n k : Option W) (h : Hd) : mFor (mRng1 (mCons (mC (.int 9)) mNil)) (gmN 2) (mb_law_1) [some s, some d, none, none, none, none, none, n, k] h = .nx [some s, some d, some (.int 8), some rowsB, some (.int (-3)), some (.int (-4)), some (.str "range"), n, k] h := by
  refine loop9 (r1 := some rowsA) (o1 := some (.int (-1000000000000000000000000000000))) (t1 := some (.int 1)) (u1 := some (.str "range")) (fun w h0 h1 a b c e => ?_) (fun w h0 h1 a b c e => ?_) none none none none none
  · have : w = 0 ∨ w = 1 ∨ w = 2 ∨ w = 3 ∨ w = 4 ∨ w = 5 ∨ w = 6 := by omega
    rcases this with rfl | rfl | rfl | rfl | rfl | rfl | rfl
    · exact lw_0 s d a b c e n k h
    · exact lw_1 s d a b c e n k h
    · exact lw_2 s d a b c e n k h
    · exact lw_3 s d a b c e n k h
    · exact lw_4 s d a b c e n k h
    · exact lw_5 s d a b c e n k h
    · exact lw_6 s d a b c e n k h
  · have : w = 7 ∨ w = 8 := by omega
    rcases this with rfl | rfl
    · exact lw_7 s d a b c e n k h
    · exact lw_8 s d a b c e n k h
theorem m_law_eq : m_law = mSeq (mSet 1 (mCall F__law_draws (mCons (mVar 0) mNil))) (mSeq (mFor (mRng1 (mCons (mC (.int 9)) mNil)) (gmN 2) (mb_law_1)) (mSeq (mSet 7 (mBin oAdd (mC (.int 1)) (mCall F__law_take (mCons (mVar 1) (mCons (mC (.int 6)) mNil))))) lastM)) := rfl
theorem mSeq_nx {m n : Sg → Hd → RS} {σ σ1 : Sg} {h h1 : Hd} (e : m σ h = .nx σ1 h1) : mSeq m n σ h = n σ1 h1 := by
  unfold mSeq
  rw [e]
  rfl
theorem noRefs_ints : ∀ ns : List Int, noRefs (ns.map W.int) = true
  | [] => by simp [noRefs]
  | n :: ns => by simp [noRefs, noRef, noRefs_ints ns]
theorem law_true (ns : List Int) (hn : ns.length ≤ 63) (_ : ∀ z ∈ ns, Builtin.Int.intBits z ≤ 1048576) : ∃ h', fnB 1 9 m_law [.scr (ns.map W.int)] [] = .ok (.bl true) h' := by
  obtain ⟨xs, e1, _⟩ := draws_ok hn
  have key : ∃ h', m_law [some (.scr (ns.map W.int)), none, none, none, none, none, none, none, none] [] = .rt (.bl true) h' := by
    rw [m_law_eq]
    have ea : mSet 1 (mCall F__law_draws (mCons (mVar 0) mNil)) [some (.scr (ns.map W.int)), none, none, none, none, none, none, none, none] [] = .nx [some (.scr (ns.map W.int)), some (.ref 1), none, none, none, none, none, none, none] [.lst (xs.map W.int), .lst ((xs.map W.int).reverse)] := by
      have : mCall F__law_draws (mCons (mVar 0) mNil) [some (.scr (ns.map W.int)), none, none, none, none, none, none, none, none] [] = F__law_draws [.scr (ns.map W.int)] [] := rfl
      unfold mSet
      rw [this, e1]
      rfl
    have eb := loop_ok (.scr (ns.map W.int)) (.ref 1) none none [.lst (xs.map W.int), .lst ((xs.map W.int).reverse)]
    obtain ⟨r, h', et, r0, r6⟩ := take_ok (h := [.lst (xs.map W.int), .lst ((xs.map W.int).reverse)]) (l := 1) (zs := xs.reverse) (b := 6) (by decide) (by rw [List.map_reverse]; rfl)
    have ec : mSet 7 (mBin oAdd (mC (.int 1)) (mCall F__law_take (mCons (mVar 1) (mCons (mC (.int 6)) mNil)))) [some (.scr (ns.map W.int)), some (.ref 1), some (.int 8), some rowsB, some (.int (-3)), some (.int (-4)), some (.str "range"), none, none] [.lst (xs.map W.int), .lst ((xs.map W.int).reverse)] = .nx [some (.scr (ns.map W.int)), some (.ref 1), some (.int 8), some rowsB, some (.int (-3)), some (.int (-4)), some (.str "range"), some (.int (1 + r)), none] h' := by
      have : mCall F__law_take (mCons (mVar 1) (mCons (mC (.int 6)) mNil)) [some (.scr (ns.map W.int)), some (.ref 1), some (.int 8), some rowsB, some (.int (-3)), some (.int (-4)), some (.str "range"), none, none] [.lst (xs.map W.int), .lst ((xs.map W.int).reverse)] = F__law_take [.ref 1, .int 6] [.lst (xs.map W.int), .lst ((xs.map W.int).reverse)] := rfl
      unfold mSet mBin
      simp only [mC, R.bind]
      rw [this, et]
      rfl
    refine ⟨h', ?_⟩
    rw [mSeq_nx ea, mSeq_nx eb, mSeq_nx ec]
    have : r = 0 ∨ r = 1 ∨ r = 2 ∨ r = 3 ∨ r = 4 ∨ r = 5 := by omega
    rcases this with rfl | rfl | rfl | rfl | rfl | rfl
    · exact la1 _ _ _ _ _ _ _ none h'
    · exact la2 _ _ _ _ _ _ _ none h'
    · exact la3 _ _ _ _ _ _ _ none h'
    · exact la4 _ _ _ _ _ _ _ none h'
    · exact la5 _ _ _ _ _ _ _ none h'
    · exact la6 _ _ _ _ _ _ _ none h'
  obtain ⟨h', key⟩ := key
  have e0 : ∀ m : Sg → Hd → RS, fnB 1 9 m [.scr (ns.map W.int)] [] = fnEnd (m [some (.scr (ns.map W.int)), none, none, none, none, none, none, none, none] []) := fun m => rfl
  refine ⟨h', ?_⟩
  rw [e0, key]
  rfl
end EV

set_option Elab.async false
set_option linter.all false
set_option maxRecDepth 100000
set_option maxHeartbeats 0
namespace EV
open PySem PySem.Spec L2
def dd (i : Nat) (x : Str) : He.DefD := ⟨(x, none), x, x, defArgs (top i), defBody (top i), defScope (top i), [], []⟩
def fnl_0 : List He.DefD := [dd 39 "_law_draws", dd 40 "_law_alike", dd 38 "_law_take", dd 9 "check_posts", dd 10 "made_web", dd 11 "row_ties", dd 20 "grid_web", dd 21 "sides_web", dd 41 "_law_word", dd 13 "row_web", dd 12 "star_ties", dd 17 "wheel_web", dd 14 "ring_web", dd 18 "full_web", dd 19 "ladder_web", dd 15 "star_web", dd 16 "fan_web", dd 42 "_law_made", dd 43 "_law_bounds", dd 31 "is_one_group", dd 23 "is_integer", dd 24 "is_number", dd 28 "check_many", dd 29 "joined_by", dd 30 "groups_of", dd 35 "pieces_of", dd 25 "is_ascending", dd 34 "is_tie", dd 36 "is_web", dd 44 "_law_due"]
def fnl_1 : List He.DefD := [dd 45 "law"]
def fnl : List He.DefD := fnl_0 ++ fnl_1
def fal_0 : List He.Fa := [.free "ValueError", .free "abs", .free "all", .free "bool", .free "int", .free "isinstance", .free "len", .free "list", .free "range", .free "reversed", .free "sorted", .free "str", .free "tuple", .int "MOST_POSTS_makers" 12, .int "MOST_POSTS_webs" 12, .int "MOST_THINGS" 200, .glo "NotThere", .exc "NotThere", .glo "OutOfRange", .exc "OutOfRange", .glo "_law_draws", .glo "_law_alike", .glo "_law_take", .glo "check_posts", .glo "made_web", .glo "row_ties", .glo "grid_web", .glo "sides_web", .glo "_law_word", .glo "row_web"]
def fal_1 : List He.Fa := [.glo "star_ties", .glo "wheel_web", .glo "ring_web", .glo "full_web", .glo "ladder_web", .glo "star_web", .glo "fan_web", .glo "_law_made", .glo "_law_bounds", .glo "is_one_group", .glo "is_integer", .glo "is_number", .glo "check_many", .glo "joined_by", .glo "groups_of", .glo "pieces_of", .glo "is_ascending", .glo "is_tie", .glo "is_web", .glo "_law_due", .glo "law", .glo "TooMuch", .glo "Refused", .glo "Malformed", .exm "OutOfRange" "RoadError" true, .glo "RoadError"]
def fal : List He.Fa := fal_0 ++ fal_1
def tf_0 : List He.Defn := [("check_posts", none), ("made_web", none), ("row_ties", none), ("star_ties", none), ("row_web", none), ("ring_web", none), ("star_web", none), ("fan_web", none), ("wheel_web", none), ("full_web", none), ("ladder_web", none), ("grid_web", none), ("sides_web", none), ("is_integer", none), ("is_number", none), ("is_ascending", none), ("check_many", none), ("joined_by", none), ("groups_of", none), ("is_one_group", none), ("is_tie", none), ("pieces_of", none), ("is_web", none), ("_law_take", none), ("_law_draws", none), ("_law_alike", none), ("_law_word", none), ("_law_made", none), ("_law_bounds", none), ("_law_due", none)]
def tf_1 : List He.Defn := [("law", none)]
def tf : List He.Defn := tf_0 ++ tf_1
def dnames_0 : List Str := ["_law_draws", "_law_alike", "_law_take", "check_posts", "made_web", "row_ties", "grid_web", "sides_web", "_law_word", "row_web", "star_ties", "wheel_web", "ring_web", "full_web", "ladder_web", "star_web", "fan_web", "_law_made", "_law_bounds", "is_one_group", "is_integer", "is_number", "check_many", "joined_by", "groups_of", "pieces_of", "is_ascending", "is_tie", "is_web", "_law_due"]
def dnames_1 : List Str := ["law"]
def dnames : List Str := dnames_0 ++ dnames_1
def exB (K : PySem.W.Frag) : Bool := ((dnames.all fun x => dnone K (He.ga K x))) && (codesB tf K) && (excCB K (He.ga K "OutOfRange")) && (decide (PySem.W.kitOne K (.ref (He.ga K "OutOfRange")) (.ref (He.ga K "TooMuch")) = some false)) && (decide (PySem.W.kitOne K (.ref (He.ga K "OutOfRange")) (.ref (He.ga K "Refused")) = some false)) && (decide (PySem.W.kitOne K (.ref (He.ga K "OutOfRange")) (.ref (He.ga K "NotThere")) = some false)) && (decide (PySem.W.kitOne K (.ref (He.ga K "OutOfRange")) (.ref (He.ga K "Malformed")) = some false)) && (decide (PySem.W.kitOne K (.ref (He.ga K "OutOfRange")) (.ref (He.ga K "OutOfRange")) = some true)) && (decide (PySem.W.kitOne K (.ref (He.ga K "OutOfRange")) (.type "ValueError") = some true))
theorem exB_ok {K : PySem.W.Frag} (h : exB K = true) : ((dnames.all fun x => dnone K (He.ga K x))) = true ∧ (codesB tf K) = true ∧ (excCB K (He.ga K "OutOfRange")) = true ∧ (decide (PySem.W.kitOne K (.ref (He.ga K "OutOfRange")) (.ref (He.ga K "TooMuch")) = some false)) = true ∧ (decide (PySem.W.kitOne K (.ref (He.ga K "OutOfRange")) (.ref (He.ga K "Refused")) = some false)) = true ∧ (decide (PySem.W.kitOne K (.ref (He.ga K "OutOfRange")) (.ref (He.ga K "NotThere")) = some false)) = true ∧ (decide (PySem.W.kitOne K (.ref (He.ga K "OutOfRange")) (.ref (He.ga K "Malformed")) = some false)) = true ∧ (decide (PySem.W.kitOne K (.ref (He.ga K "OutOfRange")) (.ref (He.ga K "OutOfRange")) = some true)) = true ∧ (decide (PySem.W.kitOne K (.ref (He.ga K "OutOfRange")) (.type "ValueError") = some true)) = true := by
  unfold exB at h
  simp only [Bool.and_eq_true] at h
  obtain ⟨⟨⟨⟨⟨⟨⟨⟨m0, m1⟩, m2⟩, m3⟩, m4⟩, m5⟩, m6⟩, m7⟩, m8⟩ := h
  exact ⟨m0, m1, m2, m3, m4, m5, m6, m7, m8⟩
theorem wp__law_word_OutOfRange (a : Nat) (hd : Hd) : m__law_word false false false false true true a (startW N__law_word.length [W.obj a]) hd = RS.rt (W.str "range") hd := by
  show m__law_word false false false false true true a [some (.obj a), none] hd = _
  have hl : ∀ k : Option W, (mLst (mCons (mIsE true a (mVar 0)) (mCons (mIsE false a (mVar 0)) (mCons (mIsE false a (mVar 0)) (mCons (mIsE false a (mVar 0)) (mCons (mIsE false a (mVar 0)) mNil)))))) [some (.obj a), k] hd = .ok (.fl [.bl true, .bl false, .bl false, .bl false, .bl false]) hd := fun k => by
    simp [mLst, mCons, mNil, mIsE_at, R.bind]
  simp [m__law_word, mSeq, mSet, hl, R.st, RS.thn, mRet, mIf, mAnd, mTru, mIsE_at, R.bind, asT, truthW]
  kernel_rfl
theorem facts {P : Program} {w : World} {K : PySem.W.Frag} {h : Heap} {mg : Str → Option Value} {f0 : Addr} (X : K.In h) (G : h.Ns mainGlobals mg) (hfa : mg ("law" : Str) = some (.ref f0)) (c : He.SaysX fal fnl [] tf exB w h K) :
    ∃ fd : FuncData, (∀ (s : Shared) (v : Value), BindsTo s fd ⟨[v], []⟩ [("script", v)]) ∧ ∀ base : Heap, K.In base → base.Ns mainGlobals mg → (∀ p ∈ tf.map (He.cT K), GxR.TabB base mg p.1 p.2) → FnOk P w K mg base (L2N.CX P w) 10 f0 fd ["script"] (lawSp K (tf.map (He.cT K))) := by
  have C := c.t.d
  have T : Txt K mg := { n_ValueError := He.free_ok X G (C.fact 0 (f := .free "ValueError") rfl), n_abs := He.free_ok X G (C.fact 1 (f := .free "abs") rfl), n_all := He.free_ok X G (C.fact 2 (f := .free "all") rfl), n_bool := He.free_ok X G (C.fact 3 (f := .free "bool") rfl), n_int := He.free_ok X G (C.fact 4 (f := .free "int") rfl), n_isinstance := He.free_ok X G (C.fact 5 (f := .free "isinstance") rfl), n_len := He.free_ok X G (C.fact 6 (f := .free "len") rfl), n_list := He.free_ok X G (C.fact 7 (f := .free "list") rfl), n_range := He.free_ok X G (C.fact 8 (f := .free "range") rfl), n_reversed := He.free_ok X G (C.fact 9 (f := .free "reversed") rfl), n_sorted := He.free_ok X G (C.fact 10 (f := .free "sorted") rfl), n_str := He.free_ok X G (C.fact 11 (f := .free "str") rfl), n_tuple := He.free_ok X G (C.fact 12 (f := .free "tuple") rfl), c_MOST_POSTS_makers := He.int_ok X G (C.fact 13 (f := .int "MOST_POSTS_makers" 12) rfl), c_MOST_POSTS_webs := He.int_ok X G (C.fact 14 (f := .int "MOST_POSTS_webs" 12) rfl), c_MOST_THINGS := He.int_ok X G (C.fact 15 (f := .int "MOST_THINGS" 200) rfl), e_NotThere := ⟨_, He.glo_ok X G (C.fact 16 (f := .glo "NotThere") rfl), He.exc_ok (C.fact 17 (f := .exc "NotThere") rfl)⟩, e_OutOfRange := ⟨_, He.glo_ok X G (C.fact 18 (f := .glo "OutOfRange") rfl), He.exc_ok (C.fact 19 (f := .exc "OutOfRange") rfl)⟩ }
  obtain ⟨m0, m1, m2, m3, m4, m5, m6, m7, m8⟩ := exB_ok c.more
  obtain ⟨fd__law_draws, FD__law_draws⟩ := C.def_ 0 (d := dd 39 "_law_draws") rfl
  have Fn__law_draws : Fun K "_law_draws" "_law_draws" st__law_draws (He.ga K "_law_draws") fd__law_draws := fun_of FD__law_draws (all_at m0 0 rfl)
  have g__law_draws : mg "_law_draws" = some (.ref (He.ga K "_law_draws")) := He.glo_ok X G (C.fact 20 (f := .glo "_law_draws") rfl)
  have B__law_draws : Binds K fd__law_draws ["script"] [] := Fn__law_draws.binds fun _ _ _ _ _ _ us hl => match us, hl with | [_], _ => rfl
  obtain ⟨fd__law_alike, FD__law_alike⟩ := C.def_ 1 (d := dd 40 "_law_alike") rfl
  have Fn__law_alike : Fun K "_law_alike" "_law_alike" st__law_alike (He.ga K "_law_alike") fd__law_alike := fun_of FD__law_alike (all_at m0 1 rfl)
  have g__law_alike : mg "_law_alike" = some (.ref (He.ga K "_law_alike")) := He.glo_ok X G (C.fact 21 (f := .glo "_law_alike") rfl)
  have B__law_alike : Binds K fd__law_alike ["found", "due"] [] := Fn__law_alike.binds fun _ _ _ _ _ _ us hl => match us, hl with | [_, _], _ => rfl
  obtain ⟨fd__law_take, FD__law_take⟩ := C.def_ 2 (d := dd 38 "_law_take") rfl
  have Fn__law_take : Fun K "_law_take" "_law_take" st__law_take (He.ga K "_law_take") fd__law_take := fun_of FD__law_take (all_at m0 2 rfl)
  have g__law_take : mg "_law_take" = some (.ref (He.ga K "_law_take")) := He.glo_ok X G (C.fact 22 (f := .glo "_law_take") rfl)
  have B__law_take : Binds K fd__law_take ["draws", "bound"] [] := Fn__law_take.binds fun _ _ _ _ _ _ us hl => match us, hl with | [_, _], _ => rfl
  obtain ⟨fd_check_posts, FD_check_posts⟩ := C.def_ 3 (d := dd 9 "check_posts") rfl
  have Fn_check_posts : Fun K "check_posts" "check_posts" st_check_posts (He.ga K "check_posts") fd_check_posts := fun_of FD_check_posts (all_at m0 3 rfl)
  have g_check_posts : mg "check_posts" = some (.ref (He.ga K "check_posts")) := He.glo_ok X G (C.fact 23 (f := .glo "check_posts") rfl)
  have B_check_posts : Binds K fd_check_posts ["least", "number", "most"] [] := Fn_check_posts.binds fun _ _ _ _ _ _ us hl => match us, hl with | [_, _, _], _ => rfl
  obtain ⟨fd_made_web, FD_made_web⟩ := C.def_ 4 (d := dd 10 "made_web") rfl
  have Fn_made_web : Fun K "made_web" "made_web" st_made_web (He.ga K "made_web") fd_made_web := fun_of FD_made_web (all_at m0 4 rfl)
  have g_made_web : mg "made_web" = some (.ref (He.ga K "made_web")) := He.glo_ok X G (C.fact 24 (f := .glo "made_web") rfl)
  have B_made_web : Binds K fd_made_web ["posts", "ties"] [] := Fn_made_web.binds fun _ _ _ _ _ _ us hl => match us, hl with | [_, _], _ => rfl
  obtain ⟨fd_row_ties, FD_row_ties⟩ := C.def_ 5 (d := dd 11 "row_ties") rfl
  have Fn_row_ties : Fun K "row_ties" "row_ties" st_row_ties (He.ga K "row_ties") fd_row_ties := fun_of FD_row_ties (all_at m0 5 rfl)
  have g_row_ties : mg "row_ties" = some (.ref (He.ga K "row_ties")) := He.glo_ok X G (C.fact 25 (f := .glo "row_ties") rfl)
  have B_row_ties : Binds K fd_row_ties ["first", "posts"] [] := Fn_row_ties.binds fun _ _ _ _ _ _ us hl => match us, hl with | [_, _], _ => rfl
  obtain ⟨fd_grid_web, FD_grid_web⟩ := C.def_ 6 (d := dd 20 "grid_web") rfl
  have Fn_grid_web : Fun K "grid_web" "grid_web" st_grid_web (He.ga K "grid_web") fd_grid_web := fun_of FD_grid_web (all_at m0 6 rfl)
  have g_grid_web : mg "grid_web" = some (.ref (He.ga K "grid_web")) := He.glo_ok X G (C.fact 26 (f := .glo "grid_web") rfl)
  have B_grid_web : Binds K fd_grid_web ["rows", "columns"] [] := Fn_grid_web.binds fun _ _ _ _ _ _ us hl => match us, hl with | [_, _], _ => rfl
  obtain ⟨fd_sides_web, FD_sides_web⟩ := C.def_ 7 (d := dd 21 "sides_web") rfl
  have Fn_sides_web : Fun K "sides_web" "sides_web" st_sides_web (He.ga K "sides_web") fd_sides_web := fun_of FD_sides_web (all_at m0 7 rfl)
  have g_sides_web : mg "sides_web" = some (.ref (He.ga K "sides_web")) := He.glo_ok X G (C.fact 27 (f := .glo "sides_web") rfl)
  have B_sides_web : Binds K fd_sides_web ["one", "other"] [] := Fn_sides_web.binds fun _ _ _ _ _ _ us hl => match us, hl with | [_, _], _ => rfl
  obtain ⟨fd__law_word, FD__law_word⟩ := C.def_ 8 (d := dd 41 "_law_word") rfl
  have Fn__law_word : Fun K "_law_word" "_law_word" st__law_word (He.ga K "_law_word") fd__law_word := fun_of FD__law_word (all_at m0 8 rfl)
  have g__law_word : mg "_law_word" = some (.ref (He.ga K "_law_word")) := He.glo_ok X G (C.fact 28 (f := .glo "_law_word") rfl)
  have B__law_word : Binds K fd__law_word ["error"] [] := Fn__law_word.binds fun _ _ _ _ _ _ us hl => match us, hl with | [_], _ => rfl
  obtain ⟨fd_row_web, FD_row_web⟩ := C.def_ 9 (d := dd 13 "row_web") rfl
  have Fn_row_web : Fun K "row_web" "row_web" st_row_web (He.ga K "row_web") fd_row_web := fun_of FD_row_web (all_at m0 9 rfl)
  have g_row_web : mg "row_web" = some (.ref (He.ga K "row_web")) := He.glo_ok X G (C.fact 29 (f := .glo "row_web") rfl)
  have B_row_web : Binds K fd_row_web ["n"] [] := Fn_row_web.binds fun _ _ _ _ _ _ us hl => match us, hl with | [_], _ => rfl
  obtain ⟨fd_star_ties, FD_star_ties⟩ := C.def_ 10 (d := dd 12 "star_ties") rfl
  have Fn_star_ties : Fun K "star_ties" "star_ties" st_star_ties (He.ga K "star_ties") fd_star_ties := fun_of FD_star_ties (all_at m0 10 rfl)
  have g_star_ties : mg "star_ties" = some (.ref (He.ga K "star_ties")) := He.glo_ok X G (C.fact 30 (f := .glo "star_ties") rfl)
  have B_star_ties : Binds K fd_star_ties ["others"] [] := Fn_star_ties.binds fun _ _ _ _ _ _ us hl => match us, hl with | [_], _ => rfl
  obtain ⟨fd_wheel_web, FD_wheel_web⟩ := C.def_ 11 (d := dd 17 "wheel_web") rfl
  have Fn_wheel_web : Fun K "wheel_web" "wheel_web" st_wheel_web (He.ga K "wheel_web") fd_wheel_web := fun_of FD_wheel_web (all_at m0 11 rfl)
  have g_wheel_web : mg "wheel_web" = some (.ref (He.ga K "wheel_web")) := He.glo_ok X G (C.fact 31 (f := .glo "wheel_web") rfl)
  have B_wheel_web : Binds K fd_wheel_web ["n"] [] := Fn_wheel_web.binds fun _ _ _ _ _ _ us hl => match us, hl with | [_], _ => rfl
  obtain ⟨fd_ring_web, FD_ring_web⟩ := C.def_ 12 (d := dd 14 "ring_web") rfl
  have Fn_ring_web : Fun K "ring_web" "ring_web" st_ring_web (He.ga K "ring_web") fd_ring_web := fun_of FD_ring_web (all_at m0 12 rfl)
  have g_ring_web : mg "ring_web" = some (.ref (He.ga K "ring_web")) := He.glo_ok X G (C.fact 32 (f := .glo "ring_web") rfl)
  have B_ring_web : Binds K fd_ring_web ["n"] [] := Fn_ring_web.binds fun _ _ _ _ _ _ us hl => match us, hl with | [_], _ => rfl
  obtain ⟨fd_full_web, FD_full_web⟩ := C.def_ 13 (d := dd 18 "full_web") rfl
  have Fn_full_web : Fun K "full_web" "full_web" st_full_web (He.ga K "full_web") fd_full_web := fun_of FD_full_web (all_at m0 13 rfl)
  have g_full_web : mg "full_web" = some (.ref (He.ga K "full_web")) := He.glo_ok X G (C.fact 33 (f := .glo "full_web") rfl)
  have B_full_web : Binds K fd_full_web ["n"] [] := Fn_full_web.binds fun _ _ _ _ _ _ us hl => match us, hl with | [_], _ => rfl
  obtain ⟨fd_ladder_web, FD_ladder_web⟩ := C.def_ 14 (d := dd 19 "ladder_web") rfl
  have Fn_ladder_web : Fun K "ladder_web" "ladder_web" st_ladder_web (He.ga K "ladder_web") fd_ladder_web := fun_of FD_ladder_web (all_at m0 14 rfl)
  have g_ladder_web : mg "ladder_web" = some (.ref (He.ga K "ladder_web")) := He.glo_ok X G (C.fact 34 (f := .glo "ladder_web") rfl)
  have B_ladder_web : Binds K fd_ladder_web ["n"] [] := Fn_ladder_web.binds fun _ _ _ _ _ _ us hl => match us, hl with | [_], _ => rfl
  obtain ⟨fd_star_web, FD_star_web⟩ := C.def_ 15 (d := dd 15 "star_web") rfl
  have Fn_star_web : Fun K "star_web" "star_web" st_star_web (He.ga K "star_web") fd_star_web := fun_of FD_star_web (all_at m0 15 rfl)
  have g_star_web : mg "star_web" = some (.ref (He.ga K "star_web")) := He.glo_ok X G (C.fact 35 (f := .glo "star_web") rfl)
  have B_star_web : Binds K fd_star_web ["n"] [] := Fn_star_web.binds fun _ _ _ _ _ _ us hl => match us, hl with | [_], _ => rfl
  obtain ⟨fd_fan_web, FD_fan_web⟩ := C.def_ 16 (d := dd 16 "fan_web") rfl
  have Fn_fan_web : Fun K "fan_web" "fan_web" st_fan_web (He.ga K "fan_web") fd_fan_web := fun_of FD_fan_web (all_at m0 16 rfl)
  have g_fan_web : mg "fan_web" = some (.ref (He.ga K "fan_web")) := He.glo_ok X G (C.fact 36 (f := .glo "fan_web") rfl)
  have B_fan_web : Binds K fd_fan_web ["n"] [] := Fn_fan_web.binds fun _ _ _ _ _ _ us hl => match us, hl with | [_], _ => rfl
  obtain ⟨fd__law_made, FD__law_made⟩ := C.def_ 17 (d := dd 42 "_law_made") rfl
  have Fn__law_made : Fun K "_law_made" "_law_made" st__law_made (He.ga K "_law_made") fd__law_made := fun_of FD__law_made (all_at m0 17 rfl)
  have g__law_made : mg "_law_made" = some (.ref (He.ga K "_law_made")) := He.glo_ok X G (C.fact 37 (f := .glo "_law_made") rfl)
  have B__law_made : Binds K fd__law_made ["which", "one", "other"] [] := Fn__law_made.binds fun _ _ _ _ _ _ us hl => match us, hl with | [_, _, _], _ => rfl
  obtain ⟨fd__law_bounds, FD__law_bounds⟩ := C.def_ 18 (d := dd 43 "_law_bounds") rfl
  have Fn__law_bounds : Fun K "_law_bounds" "_law_bounds" st__law_bounds (He.ga K "_law_bounds") fd__law_bounds := fun_of FD__law_bounds (all_at m0 18 rfl)
  have g__law_bounds : mg "_law_bounds" = some (.ref (He.ga K "_law_bounds")) := He.glo_ok X G (C.fact 38 (f := .glo "_law_bounds") rfl)
  have B__law_bounds : Binds K fd__law_bounds ["which", "one", "other"] [] := Fn__law_bounds.binds fun _ _ _ _ _ _ us hl => match us, hl with | [_, _, _], _ => rfl
  obtain ⟨fd_is_one_group, FD_is_one_group⟩ := C.def_ 19 (d := dd 31 "is_one_group") rfl
  have Fn_is_one_group : Fun K "is_one_group" "is_one_group" st_is_one_group (He.ga K "is_one_group") fd_is_one_group := fun_of FD_is_one_group (all_at m0 19 rfl)
  have g_is_one_group : mg "is_one_group" = some (.ref (He.ga K "is_one_group")) := He.glo_ok X G (C.fact 39 (f := .glo "is_one_group") rfl)
  have B_is_one_group : Binds K fd_is_one_group ["groups"] [] := Fn_is_one_group.binds fun _ _ _ _ _ _ us hl => match us, hl with | [_], _ => rfl
  obtain ⟨fd_is_integer, FD_is_integer⟩ := C.def_ 20 (d := dd 23 "is_integer") rfl
  have Fn_is_integer : Fun K "is_integer" "is_integer" st_is_integer (He.ga K "is_integer") fd_is_integer := fun_of FD_is_integer (all_at m0 20 rfl)
  have g_is_integer : mg "is_integer" = some (.ref (He.ga K "is_integer")) := He.glo_ok X G (C.fact 40 (f := .glo "is_integer") rfl)
  have B_is_integer : Binds K fd_is_integer ["value"] [] := Fn_is_integer.binds fun _ _ _ _ _ _ us hl => match us, hl with | [_], _ => rfl
  obtain ⟨fd_is_number, FD_is_number⟩ := C.def_ 21 (d := dd 24 "is_number") rfl
  have Fn_is_number : Fun K "is_number" "is_number" st_is_number (He.ga K "is_number") fd_is_number := fun_of FD_is_number (all_at m0 21 rfl)
  have g_is_number : mg "is_number" = some (.ref (He.ga K "is_number")) := He.glo_ok X G (C.fact 41 (f := .glo "is_number") rfl)
  have B_is_number : Binds K fd_is_number ["value", "least", "most"] [] := Fn_is_number.binds fun _ _ _ _ _ _ us hl => match us, hl with | [_, _, _], _ => rfl
  obtain ⟨fd_check_many, FD_check_many⟩ := C.def_ 22 (d := dd 28 "check_many") rfl
  have Fn_check_many : Fun K "check_many" "check_many" st_check_many (He.ga K "check_many") fd_check_many := fun_of FD_check_many (all_at m0 22 rfl)
  have g_check_many : mg "check_many" = some (.ref (He.ga K "check_many")) := He.glo_ok X G (C.fact 42 (f := .glo "check_many") rfl)
  have B_check_many : Binds K fd_check_many ["many"] [] := Fn_check_many.binds fun _ _ _ _ _ _ us hl => match us, hl with | [_], _ => rfl
  obtain ⟨fd_joined_by, FD_joined_by⟩ := C.def_ 23 (d := dd 29 "joined_by") rfl
  have Fn_joined_by : Fun K "joined_by" "joined_by" st_joined_by (He.ga K "joined_by") fd_joined_by := fun_of FD_joined_by (all_at m0 23 rfl)
  have g_joined_by : mg "joined_by" = some (.ref (He.ga K "joined_by")) := He.glo_ok X G (C.fact 43 (f := .glo "joined_by") rfl)
  have B_joined_by : Binds K fd_joined_by ["groups", "one", "other"] [] := Fn_joined_by.binds fun _ _ _ _ _ _ us hl => match us, hl with | [_, _, _], _ => rfl
  obtain ⟨fd_groups_of, FD_groups_of⟩ := C.def_ 24 (d := dd 30 "groups_of") rfl
  have Fn_groups_of : Fun K "groups_of" "groups_of" st_groups_of (He.ga K "groups_of") fd_groups_of := fun_of FD_groups_of (all_at m0 24 rfl)
  have g_groups_of : mg "groups_of" = some (.ref (He.ga K "groups_of")) := He.glo_ok X G (C.fact 44 (f := .glo "groups_of") rfl)
  have B_groups_of : Binds K fd_groups_of ["many", "pairs"] [] := Fn_groups_of.binds fun _ _ _ _ _ _ us hl => match us, hl with | [_, _], _ => rfl
  obtain ⟨fd_pieces_of, FD_pieces_of⟩ := C.def_ 25 (d := dd 35 "pieces_of") rfl
  have Fn_pieces_of : Fun K "pieces_of" "pieces_of" st_pieces_of (He.ga K "pieces_of") fd_pieces_of := fun_of FD_pieces_of (all_at m0 25 rfl)
  have g_pieces_of : mg "pieces_of" = some (.ref (He.ga K "pieces_of")) := He.glo_ok X G (C.fact 45 (f := .glo "pieces_of") rfl)
  have B_pieces_of : Binds K fd_pieces_of ["posts", "ties"] [] := Fn_pieces_of.binds fun _ _ _ _ _ _ us hl => match us, hl with | [_, _], _ => rfl
  obtain ⟨fd_is_ascending, FD_is_ascending⟩ := C.def_ 26 (d := dd 25 "is_ascending") rfl
  have Fn_is_ascending : Fun K "is_ascending" "is_ascending" st_is_ascending (He.ga K "is_ascending") fd_is_ascending := fun_of FD_is_ascending (all_at m0 26 rfl)
  have g_is_ascending : mg "is_ascending" = some (.ref (He.ga K "is_ascending")) := He.glo_ok X G (C.fact 46 (f := .glo "is_ascending") rfl)
  have B_is_ascending : Binds K fd_is_ascending ["values"] [] := Fn_is_ascending.binds fun _ _ _ _ _ _ us hl => match us, hl with | [_], _ => rfl
  obtain ⟨fd_is_tie, FD_is_tie⟩ := C.def_ 27 (d := dd 34 "is_tie") rfl
  have Fn_is_tie : Fun K "is_tie" "is_tie" st_is_tie (He.ga K "is_tie") fd_is_tie := fun_of FD_is_tie (all_at m0 27 rfl)
  have g_is_tie : mg "is_tie" = some (.ref (He.ga K "is_tie")) := He.glo_ok X G (C.fact 47 (f := .glo "is_tie") rfl)
  have B_is_tie : Binds K fd_is_tie ["posts", "value"] [] := Fn_is_tie.binds fun _ _ _ _ _ _ us hl => match us, hl with | [_, _], _ => rfl
  obtain ⟨fd_is_web, FD_is_web⟩ := C.def_ 28 (d := dd 36 "is_web") rfl
  have Fn_is_web : Fun K "is_web" "is_web" st_is_web (He.ga K "is_web") fd_is_web := fun_of FD_is_web (all_at m0 28 rfl)
  have g_is_web : mg "is_web" = some (.ref (He.ga K "is_web")) := He.glo_ok X G (C.fact 48 (f := .glo "is_web") rfl)
  have B_is_web : Binds K fd_is_web ["value"] [] := Fn_is_web.binds fun _ _ _ _ _ _ us hl => match us, hl with | [_], _ => rfl
  obtain ⟨fd__law_due, FD__law_due⟩ := C.def_ 29 (d := dd 44 "_law_due") rfl
  have Fn__law_due : Fun K "_law_due" "_law_due" st__law_due (He.ga K "_law_due") fd__law_due := fun_of FD__law_due (all_at m0 29 rfl)
  have g__law_due : mg "_law_due" = some (.ref (He.ga K "_law_due")) := He.glo_ok X G (C.fact 49 (f := .glo "_law_due") rfl)
  have B__law_due : Binds K fd__law_due ["which", "one", "other"] [] := Fn__law_due.binds fun _ _ _ _ _ _ us hl => match us, hl with | [_, _, _], _ => rfl
  obtain ⟨fd_law, FD_law⟩ := C.def_ 30 (d := dd 45 "law") rfl
  have Fn_law : Fun K "law" "law" st_law (He.ga K "law") fd_law := fun_of FD_law (all_at m0 30 rfl)
  have g_law : mg "law" = some (.ref (He.ga K "law")) := He.glo_ok X G (C.fact 50 (f := .glo "law") rfl)
  have B_law : Binds K fd_law ["script"] [] := Fn_law.binds fun _ _ _ _ _ _ us hl => match us, hl with | [_], _ => rfl
  have eL := hfa.symm.trans g_law
  cases eL
  have bl := FunD.bindsA (ps := ["script"]) FD_law fun _ _ _ _ _ _ us hl => match us, hl with | [_], _ => rfl
  refine ⟨fd_law, fun s v => bl s [v] rfl, fun base KB GB TB => ?_⟩
  have D__law_draws := d__law_draws (P := P) (w := w) (base := base) T Fn__law_draws g__law_draws B__law_draws
  have D__law_alike : DefV P w K mg base 9 "_law_alike" 2 (F__law_alike 8) := (d__law_alike (P := P) (w := w) (base := base) T Fn__law_alike g__law_alike B__law_alike 8).mono (by decide)
  have D__law_take := d__law_take (P := P) (w := w) (base := base) T Fn__law_take g__law_take B__law_take
  have D_check_posts := d_check_posts (P := P) (w := w) (base := base) T Fn_check_posts g_check_posts B_check_posts
  have D_made_web := d_made_web (P := P) (w := w) (base := base) T Fn_made_web g_made_web B_made_web
  have D_row_ties := d_row_ties (P := P) (w := w) (base := base) T Fn_row_ties g_row_ties B_row_ties
  have D_grid_web := d_grid_web (P := P) (w := w) (base := base) T D_check_posts D_made_web D_row_ties Fn_grid_web g_grid_web B_grid_web
  have D_sides_web := d_sides_web (P := P) (w := w) (base := base) T D_check_posts D_made_web Fn_sides_web g_sides_web B_sides_web
  have e_OutOfRange : excV mg "OutOfRange" = .ref (He.ga K "OutOfRange") := by unfold excV; rw [He.glo_ok X G (C.fact 18 (f := .glo "OutOfRange") rfl)]; rfl
  have W__law_word_OutOfRange : ∀ k, WordV P w K mg base k "_law_word" (excV mg "OutOfRange") "range" := fun k => by
    rw [e_OutOfRange]
    exact ⟨st__law_word, _, fd__law_word, N__law_word, _, m__law_word false false false false true true, Fn__law_word, g__law_word, B__law_word, sc__law_word, rfl, fun cdv A outer s H a oe hz hf hr => b__law_word T (excCB_ok m2) hz hf (He.glo_ok X G (C.fact 51 (f := .glo "TooMuch") rfl)) (of_decide_eq_true m3) (He.glo_ok X G (C.fact 52 (f := .glo "Refused") rfl)) (of_decide_eq_true m4) (He.glo_ok X G (C.fact 16 (f := .glo "NotThere") rfl)) (of_decide_eq_true m5) (He.glo_ok X G (C.fact 53 (f := .glo "Malformed") rfl)) (of_decide_eq_true m6) (He.glo_ok X G (C.fact 18 (f := .glo "OutOfRange") rfl)) (of_decide_eq_true m7) (of_decide_eq_true m8) (hr.mono (Nat.zero_le _)), fun a hd => wp__law_word_OutOfRange a hd⟩
  have D_row_web := d_row_web (P := P) (w := w) (base := base) T D_check_posts D_made_web D_row_ties Fn_row_web g_row_web B_row_web
  have D_star_ties := d_star_ties (P := P) (w := w) (base := base) T Fn_star_ties g_star_ties B_star_ties
  have D_wheel_web := d_wheel_web (P := P) (w := w) (base := base) T D_check_posts D_made_web D_row_ties D_star_ties Fn_wheel_web g_wheel_web B_wheel_web
  have D_ring_web := d_ring_web (P := P) (w := w) (base := base) T D_check_posts D_made_web D_row_ties Fn_ring_web g_ring_web B_ring_web
  have D_full_web := d_full_web (P := P) (w := w) (base := base) T D_check_posts D_made_web Fn_full_web g_full_web B_full_web
  have D_ladder_web := d_ladder_web (P := P) (w := w) (base := base) T D_check_posts D_made_web D_row_ties Fn_ladder_web g_ladder_web B_ladder_web
  have D_star_web := d_star_web (P := P) (w := w) (base := base) T D_check_posts D_made_web D_star_ties Fn_star_web g_star_web B_star_web
  have D_fan_web := d_fan_web (P := P) (w := w) (base := base) T D_check_posts D_made_web D_row_ties D_star_ties Fn_fan_web g_fan_web B_fan_web
  have hW__law_made : ∀ c z, w__law_word c = some z → PySem.W.exmOne K (excV mg c) (.ref (He.ga K "RoadError")) = some true ∧ WordV P w K mg base 2 "_law_word" (excV mg c) z := fun c z hz => by
    unfold w__law_word at hz
    by_cases hc : c = "OutOfRange"
    · rw [if_pos hc] at hz; cases hz; subst hc; exact ⟨by rw [e_OutOfRange]; exact He.exm_ok (C.fact 54 (f := .exm "OutOfRange" "RoadError" true) rfl), W__law_word_OutOfRange _⟩
    rw [if_neg hc] at hz
    cases hz
  have D__law_made := d__law_made (P := P) (w := w) (base := base) T D_grid_web D_sides_web D_row_web D_wheel_web D_ring_web D_full_web D_ladder_web D_star_web D_fan_web (He.glo_ok X G (C.fact 55 (f := .glo "RoadError") rfl)) (fun f hf => by rw [g__law_word] at hf; cases hf; exact Fn__law_word.kp) hW__law_made Fn__law_made g__law_made B__law_made
  have D__law_bounds := d__law_bounds (P := P) (w := w) (base := base) T Fn__law_bounds g__law_bounds B__law_bounds
  have D_is_one_group := d_is_one_group (P := P) (w := w) (base := base) T (⟨TB (He.cT K ("is_one_group", none)) (List.mem_map.mpr ⟨_, List.mem_of_getElem? (i := 19) rfl, rfl⟩), kc_of (FunC.of (p := ("is_one_group", none)) Fn_is_one_group)⟩ : TabK K base mg (He.codeOf K ("is_one_group", none)) (He.tabOf K (He.codeOf K ("is_one_group", none)))) (FunC.of (p := ("is_one_group", none)) Fn_is_one_group) g_is_one_group B_is_one_group
  have D_is_integer := d_is_integer (P := P) (w := w) (base := base) T Fn_is_integer g_is_integer B_is_integer
  have D_is_number := d_is_number (P := P) (w := w) (base := base) T D_is_integer Fn_is_number g_is_number B_is_number
  have D_check_many := d_check_many (P := P) (w := w) (base := base) T D_is_number Fn_check_many g_check_many B_check_many
  have D_joined_by := d_joined_by (P := P) (w := w) (base := base) T Fn_joined_by g_joined_by B_joined_by
  have D_groups_of := d_groups_of (P := P) (w := w) (base := base) T D_is_integer D_check_many D_joined_by (⟨TB (He.cT K ("groups_of", none)) (List.mem_map.mpr ⟨_, List.mem_of_getElem? (i := 18) rfl, rfl⟩), kc_of (FunC.of (p := ("groups_of", none)) Fn_groups_of)⟩ : TabK K base mg (He.codeOf K ("groups_of", none)) (He.tabOf K (He.codeOf K ("groups_of", none)))) (FunC.of (p := ("groups_of", none)) Fn_groups_of) g_groups_of B_groups_of
  have D_pieces_of := d_pieces_of (P := P) (w := w) (base := base) T D_groups_of Fn_pieces_of g_pieces_of B_pieces_of
  have D_is_ascending := d_is_ascending (P := P) (w := w) (base := base) T (⟨TB (He.cT K ("is_ascending", none)) (List.mem_map.mpr ⟨_, List.mem_of_getElem? (i := 15) rfl, rfl⟩), kc_of (FunC.of (p := ("is_ascending", none)) Fn_is_ascending)⟩ : TabK K base mg (He.codeOf K ("is_ascending", none)) (He.tabOf K (He.codeOf K ("is_ascending", none)))) (FunC.of (p := ("is_ascending", none)) Fn_is_ascending) g_is_ascending B_is_ascending
  have D_is_tie := d_is_tie (P := P) (w := w) (base := base) T D_is_number Fn_is_tie g_is_tie B_is_tie
  have D_is_web := d_is_web (P := P) (w := w) (base := base) T D_is_one_group D_is_number D_pieces_of D_is_ascending D_is_tie (⟨TB (He.cT K ("is_web", none)) (List.mem_map.mpr ⟨_, List.mem_of_getElem? (i := 22) rfl, rfl⟩), kc_of (FunC.of (p := ("is_web", none)) Fn_is_web)⟩ : TabK K base mg (He.codeOf K ("is_web", none)) (He.tabOf K (He.codeOf K ("is_web", none)))) (FunC.of (p := ("is_web", none)) Fn_is_web) g_is_web B_is_web
  have D__law_due := d__law_due (P := P) (w := w) (base := base) T Fn__law_due g__law_due B__law_due
  exact (law_fn Fn_law sc_law fun cdv A outer s H E hr => b_law T D__law_draws D__law_alike D__law_take D_grid_web D_sides_web D_row_web D_wheel_web D_full_web D_ladder_web D_star_web D_fan_web D__law_made D__law_bounds D_is_web D__law_due hr).imp (law_sp (tabs_all KB m1 c.hd) law_true)
def loose_0 : List Str := ["RoadError", "OutOfRange", "Malformed", "NotThere", "Refused", "TooMuch", "MOST_POSTS_makers", "check_posts", "made_web", "row_ties", "star_ties", "row_web", "ring_web", "star_web", "fan_web", "wheel_web", "full_web", "ladder_web", "grid_web", "sides_web", "is_integer", "is_number", "is_ascending", "MOST_THINGS", "check_many", "joined_by", "groups_of", "is_one_group", "MOST_POSTS_webs", "is_tie"]
def loose_1 : List Str := ["pieces_of", "is_web", "_law_take", "_law_draws", "_law_alike", "_law_word", "_law_made", "_law_bounds", "_law_due"]
def loose : List Str := loose_0 ++ loose_1
abbrev Rw : PySem.W.OpenRow := PySem.W.OpenLaw.row PySem.Challenge.rw_twinroads_k11_whole_known_webs
abbrev hk : PySem.W.Hook := He.hookX 5 fal fnl [] tf exB
def ob (s : PySem.W.SharedT) : He.AlX := He.obsX 5 fal fnl [] tf exB (HandSHeadRun.getT s)
theorem ob_eq (s : PySem.W.SharedT) : ob s = hk.obs s.abs := He.obsX_eq (HandSHeadRun.getT_eq s)
theorem run (w : World) : HandSHeadRun.RunEq Rw (PySem.W.view Rw.prog [45]) hk ob 20000 loose w := by
  intro os
  kernel_rfl
end EV
open PySem PySem.W PySem.Calls PyProof.Rows
theorem PySem.Challenge.cw_twinroads_k11_whole_known_webs_holds : PySem.Challenge.rw_twinroads_k11_whole_known_webs.Holds := by
  w_on; o_law
  refine HandSHeadRun.head_any (r := OpenLaw.row PySem.Challenge.rw_twinroads_k11_whole_known_webs) (q := view (OpenLaw.row PySem.Challenge.rw_twinroads_k11_whole_known_webs).prog [45]) (H := EV.hk) (ob := EV.ob) (M := 20000) (loose := EV.loose) (d := HandSHeadRun.topDef (OpenLaw.row PySem.Challenge.rw_twinroads_k11_whole_known_webs).prog 45) (kwd := []) EV.ob_eq
    (by kernel_rfl) (fun s => by kernel_rfl) EV.run (by kernel_rfl) (by kernel_rfl) (by kernel_rfl) (by rfl) (by first | assumption | decide +kernel) (by decide +kernel) ⟨rfl, rfl, rfl, rfl, rfl, by decide +kernel⟩ ?hw ?hc
  case hw => w_witness2
  case hc =>
    refine LamX.walk_ofTsE (l := PySem.Challenge.rw_twinroads_k11_whole_known_webs) (n := 63) (k := 10) (x := "script") (CX := fun w => L2N.CX (PySem.Challenge.rw_twinroads_k11_whole_known_webs).prog w) rfl (by decide) (by kernel_rfl) ⟨rfl, by decide, by decide⟩ ?F ?N
    case N => exact fun w H s e s' z => EV.cx_none z
    case F =>
      intro w mg fa h Y G hmg0
      obtain ⟨K, KX, c⟩ := Y
      have hmg : mg ("law" : PySem.Str) = some (.ref fa) := by
        have e : (HandSHeadRun.topDef (OpenLaw.row PySem.Challenge.rw_twinroads_k11_whole_known_webs).prog 45).name = ("law" : PySem.Str) := by kernel_rfl
        rw [← e]
        exact hmg0
      obtain ⟨fd, hb, hF⟩ := EV.facts (P := (PySem.Challenge.rw_twinroads_k11_whole_known_webs).prog) (w := w) KX G hmg c
      refine ⟨K, KX, fd, EV.tf.map (He.cT K), EV.lawSp K (EV.tf.map (He.cT K)), ?_, ?_, ?_, hb, fun H a ns hl hbits ht hS => ⟨a, ns, rfl, hl, hbits, ht, hS, fun _ => rfl⟩, fun base KB GB TB => hF base KB GB fun p hp => ⟨(TB p hp).code, (TB p hp).bm, (TB p hp).gP⟩⟩
      · intro p hp
        obtain ⟨q, hq, rfl⟩ := List.mem_map.mp hp
        exact c.empty q hq
      · intro p hp
        obtain ⟨q, hq, rfl⟩ := List.mem_map.mp hp
        exact c.out q hq
      · intro p hp
        obtain ⟨q, hq, rfl⟩ := List.mem_map.mp hp
        exact codeHd_of_K KX (c.hd q hq)

